/- Lemmas, walks and printed functions for the claim. -/
import Derived.Test.YtjbcfdgnafmbkaaDoorSDCur2
import Derived.Test.YtjbcfdgnafmbkaaDoorSDCur15
import Derived.Test.YtjbcfdgnafmbkaaDoorSDCur16
import Derived.Test.YtjbcfdgnafmbkaaDoorSDCur22
section
namespace Go.Proofs.YtjbcfdgnafmbkaaDoor.PBig
open Go.RowKit Go.Proofs.YtjbcfdgnafmbkaaDoorW.PrintWords Go.Proofs.YtjbcfdgnafmbkaaDoorW.PrintLast Go.Proofs.YtjbcfdgnafmbkaaDoorW.PrintMore
theorem pbigx10lsb {α : Type} (l : List α) (i : Nat) (x : α) : l.toArray.setIfInBounds i x=(l.set i x).toArray:=List.setIfInBounds_toArray ..
theorem pbigx10lsz {α : Type} {a b : α} {l : List α} : (b :: l).set 0 a=a :: l:=rfl
theorem pbigx10lss {α : Type} {a b : α} {l : List α} {i : Nat} : (b :: l).set (i + 1) a=b :: l.set i a:=rfl
attribute [local go_sem] max2_int min2_int max_two min_two max_three min_three max_four min_four
set_option linter.unusedVariables false
set_option linter.unusedSimpArgs false
def R11_Hash.f (k : Nat) (a0 : Int) (a1 : Int) (l2 : List Int) : Option (Int):=(R01_Int.f a0).bind fun bt293=>((R01_Int.f a1).bind fun bt299=>((R01_Text.f (strOfNums l2)).bind fun bt305=>((R01_List.f (([(⟨bt293.1,bt293.2.1,bt293.2.2.1,bt293.2.2.2⟩ : S93),(⟨bt299.1,bt299.2.1,bt299.2.2.1,bt299.2.2.2⟩ : S93),(⟨bt305.1,bt305.2.1,bt305.2.2.1,bt305.2.2.2⟩ : S93)] : List (S93)))).bind fun bt314=>((R01_Encode.f k bt314.1 bt314.2.1 bt314.2.2.1 bt314.2.2.2).bind fun bt320=>((R10_Hash.f (⟨#[115,105,103,110]⟩ : ByteArray) bt320.1).bind fun t324=>(some t324))))))
theorem R11_Hash.mono : ∀ a0 a1 a2 k,LeO (R11_Hash.f k a0 a1 a2) (R11_Hash.f (k + 1) a0 a1 a2):=by
 intro a0 a1 a2 k
 unfold R11_Hash.f
 repeat' first
   | (with_reducible exact R01_Encode.mono _ _ _ _ _)
   | (with_reducible exact LeO.refl _)
   | (with_reducible exact LeO.none _)
   | (with_reducible refine LeO.ite ?_ ?_)
   | (with_reducible refine LeO.bind ?_ (fun _=>?_))
   | exact R01_Encode.mono _ _ _ _ _
   | exact LeO.none _
   | refine LeO.ite ?_ ?_
   | refine LeO.bind ?_ (fun _=>?_)
def R11_Hash.T1 : Bool × List (List Nat × List Nat):=(true,[([],[]),([0],[0]),([],[]),([2,1],[2]),([],[]),([4],[4]),([5,3],[5]),([1,3,6],[1,3,6]),([7,6],[7]),([8,8],[8]),([9],[9]),([10],[10]),([10],[10]),([11,9,0,1,2,3,4,5,6,7,8,9,10,11],[11]),([12,13,0,1,2,3,4,5,6,7,8,9,10,11,12,13],[12])])
def R11_Hash.B1 : List Nat:=[0,1,0,7,0,16,63,127,255,511,1023,2047,2047,4095,16383]
theorem R11_Hash.tab1 : rtab .any (opsOf Tryd.f118 1)=R11_Hash.T1:=by kernel_rfl
theorem R11_Hash.bits1 : waitsOk R11_Hash.T1.2 R11_Hash.B1=true:=by kernel_rfl
set_option maxHeartbeats 8000000 in
set_option maxRecDepth 100000 in
theorem R11_Hash.calls (k : Nat) (a0 : Int) (a1 : Int) (A2 : Option Addr) (c2 : Nat) (l2 : List Int) (r : Int) (w : World) (hr2 : Kd.C (Kd.int .u8) w A2 l2.length l2) (hc2 : l2.length ≤ c2) (h : R11_Hash.f k a0 a1 l2=some r) :
  Calls Tryd.prog 118 #[.int .i64 a0,.int .i64 a1,.slice A2 l2.length c2] w fun e w'=>e=.returned (.int .i64 r) ∧ Below w.heap.size w w':=by
 have HR2:=Aside0.mk hr2
 have HC2:=Aside0.mk hc2
 clear hr2 hc2
 have HB:=Aside0.mk (Below.refl w.heap.size w)
 have H : ((R01_Int.f a0).bind fun bt293=>((R01_Int.f a1).bind fun bt299=>((R01_Text.f (strOfNums l2)).bind fun bt305=>((R01_List.f (([(⟨bt293.1,bt293.2.1,bt293.2.2.1,bt293.2.2.2⟩ : S93),(⟨bt299.1,bt299.2.1,bt299.2.2.1,bt299.2.2.2⟩ : S93),(⟨bt305.1,bt305.2.1,bt305.2.2.1,bt305.2.2.2⟩ : S93)] : List (S93)))).bind fun bt314=>((R01_Encode.f k bt314.1 bt314.2.1 bt314.2.2.1 bt314.2.2.2).bind fun bt320=>((R10_Hash.f (⟨#[115,105,103,110]⟩ : ByteArray) bt320.1).bind fun t324=>(some t324)))))))=some r:=h
 clear h
 replace H:=Option.bind_eq_some_iff.mp H
 obtain ⟨⟨t293,t294,t295,t296⟩,A40,H⟩:=H
 replace H : ((R01_Int.f a1).bind fun bt299=>((R01_Text.f (strOfNums l2)).bind fun bt305=>((R01_List.f (([(⟨t293,t294,t295,t296⟩ : S93),(⟨bt299.1,bt299.2.1,bt299.2.2.1,bt299.2.2.2⟩ : S93),(⟨bt305.1,bt305.2.1,bt305.2.2.1,bt305.2.2.2⟩ : S93)] : List (S93)))).bind fun bt314=>((R01_Encode.f k bt314.1 bt314.2.1 bt314.2.2.1 bt314.2.2.2).bind fun bt320=>((R10_Hash.f (⟨#[115,105,103,110]⟩ : ByteArray) bt320.1).bind fun t324=>(some t324))))))=some r:=H
 have A4:=Aside0.mk A40
 clear A40
 replace H:=Option.bind_eq_some_iff.mp H
 obtain ⟨⟨t299,t300,t301,t302⟩,A50,H⟩:=H
 replace H : ((R01_Text.f (strOfNums l2)).bind fun bt305=>((R01_List.f (([(⟨t293,t294,t295,t296⟩ : S93),(⟨t299,t300,t301,t302⟩ : S93),(⟨bt305.1,bt305.2.1,bt305.2.2.1,bt305.2.2.2⟩ : S93)] : List (S93)))).bind fun bt314=>((R01_Encode.f k bt314.1 bt314.2.1 bt314.2.2.1 bt314.2.2.2).bind fun bt320=>((R10_Hash.f (⟨#[115,105,103,110]⟩ : ByteArray) bt320.1).bind fun t324=>(some t324)))))=some r:=H
 have A5:=Aside0.mk A50
 clear A50
 replace H:=Option.bind_eq_some_iff.mp H
 obtain ⟨⟨t305,t306,t307,t308⟩,A60,H⟩:=H
 replace H : ((R01_List.f (([(⟨t293,t294,t295,t296⟩ : S93),(⟨t299,t300,t301,t302⟩ : S93),(⟨t305,t306,t307,t308⟩ : S93)] : List (S93)))).bind fun bt314=>((R01_Encode.f k bt314.1 bt314.2.1 bt314.2.2.1 bt314.2.2.2).bind fun bt320=>((R10_Hash.f (⟨#[115,105,103,110]⟩ : ByteArray) bt320.1).bind fun t324=>(some t324))))=some r:=H
 have A6:=Aside0.mk A60
 clear A60
 obtain ⟨y311,hy311⟩ : ∃ y_ : List (S93),y_=(([(⟨t293,t294,t295,t296⟩ : S93),(⟨t299,t300,t301,t302⟩ : S93),(⟨t305,t306,t307,t308⟩ : S93)] : List (S93))):=⟨_,rfl⟩
 replace H : ((R01_List.f y311).bind fun bt314=>((R01_Encode.f k bt314.1 bt314.2.1 bt314.2.2.1 bt314.2.2.2).bind fun bt320=>((R10_Hash.f (⟨#[115,105,103,110]⟩ : ByteArray) bt320.1).bind fun t324=>(some t324))))=some r:=by first | (rw [hy311];with_reducible exact H) | (have H2_:=(Option.bind_some _ _).symm.trans H;rw [hy311];with_reducible exact H2_) | (have H2_:=(Option.bind_some _ _).symm.trans H;with_reducible exact H2_) | with_reducible exact H | (rw [hy311];exact H) | exact H
 have Ny311:=Aside0.mk hy311
 clear hy311
 replace H:=Option.bind_eq_some_iff.mp H
 obtain ⟨⟨t314,t315,t316,t317⟩,A70,H⟩:=H
 replace H : ((R01_Encode.f k t314 t315 t316 t317).bind fun bt320=>((R10_Hash.f (⟨#[115,105,103,110]⟩ : ByteArray) bt320.1).bind fun t324=>(some t324)))=some r:=H
 have A7:=Aside0.mk A70
 clear A70
 replace H:=Option.bind_eq_some_iff.mp H
 obtain ⟨⟨t320,t323⟩,A80,H⟩:=H
 replace H : ((R10_Hash.f (⟨#[115,105,103,110]⟩ : ByteArray) t320).bind fun t324=>(some t324))=some r:=H
 have A8:=Aside0.mk A80
 clear A80
 replace H:=Option.bind_eq_some_iff.mp H
 obtain ⟨t324,A90,H⟩:=H
 replace H : (some t324)=some r:=H
 have A9:=Aside0.mk A90
 clear A90
 obtain rfl:=Option.some.inj H
 go_enter Tryd.func118,Tryd.ntmps118
 try go_wp2
 have n0_:=Aside0.mk (below_drew1 HB.out)
 clear HB
 have HB:=n0_
 clear n0_
 refine start_ (n:=15) (S:=fun w'=>Kd.C (Kd.int .u8) w' A2 l2.length l2) (ds:=[]) #[false,false,false,false,false,false,false,false,false,false,false,false,false,false,false] (by kernel_rfl) rfl rfl (Kd.C_below HR2.out HB.out) (fun hHeld=>?_);refine with_tabW R11_Hash.tab1 R11_Hash.bits1 (fun HT_ HW_=>?_)
 generalize w.drew=w10 at HB hHeld ⊢
 refine pure_ (i:=0) (N:=some 10) (v:=?_) (a':=?_) #[true,false,false,false,false,false,false,false,false,false,false,false,false,false,false] rfl rfl (any_of HT_.out (by kernel_rfl)) (fun _ _ _ h=>h) (Or.inl ⟨by rfl,?_⟩) ?_ ?_
 rotate_left
 ·intro w'
  go_simp
  with_reducible rfl
 rotate_left
 ·simp only [Act.put,pbigx10lsb,pbigx10lsz,pbigx10lss,i64_w,i32_w]
  rfl
 refine pure_ (i:=2) (N:=some 12) (v:=?_) (a':=?_) #[true,false,true,false,false,false,false,false,false,false,false,false,false,false,false] rfl rfl (any_of HT_.out (by kernel_rfl)) (fun _ _ _ h=>h) (Or.inl ⟨by rfl,?_⟩) ?_ ?_
 rotate_left
 ·intro w'
  go_simp
  with_reducible rfl
 rotate_left
 ·simp only [Act.put,pbigx10lsb,pbigx10lsz,pbigx10lss,i64_w,i32_w]
  rfl
 refine pure_ (i:=4) (N:=some 14) (v:=?_) (a':=?_) #[true,false,true,false,true,false,false,false,false,false,false,false,false,false,false] rfl rfl (any_of HT_.out (by kernel_rfl)) (fun _ _ _ h=>h) (Or.inl ⟨by rfl,?_⟩) ?_ ?_
 rotate_left
 ·intro w'
  go_simp
  with_reducible rfl
 rotate_left
 ·simp only [Act.put,pbigx10lsb,pbigx10lsz,pbigx10lss,i64_w,i32_w]
  rfl
 refine take_ (i:=5) (N:=some 15) (v:=?_) (a':=?_) #[true,false,true,false,true,true,false,false,false,false,false,false,false,false,false] rfl rfl (take_ofW HT_.out HW_.out (by kernel_rfl)) (fun _ _ _ h=>h) (Or.inl ⟨by rfl,?_⟩) hHeld ?_ ?_
 rotate_left
 ·intro w' hSw
  have hcs_:=Kd.C_string (P:=Tryd.prog) (A:=A2) (c:=c2) Tryd.underlying22 Tryd.underlying5 Tryd.underlying9 hSw
  clear hSw
  go_simp
  with_reducible rfl
 rotate_left
 ·simp only [Act.put,pbigx10lsb,pbigx10lsz,pbigx10lss,i64_w,i32_w]
  rfl
 refine one_ (i:=1) (N:=some 11) #[true,true,true,false,true,true,false,false,false,false,false,false,false,false,false] rfl rfl (one_of HT_.out (by kernel_rfl)) (by decide) (fun K hK=>?_)
 refine goes_ Tryd.func137 (by kernel_rfl) rfl #[.int .i64 a0] (by rfl) rfl rfl (by (try simp only [List.map_toArray,List.map_cons,List.map_nil]);first | done | rfl | (simp only [List.length_drop,List.length_take];rfl)) ?_
 with_reducible refine (R01_Int.calls a0 t293 t294 t295 t296 _ A4.out).mono ?_
 rintro e w11 ⟨v297,rfl,ho0,hb⟩
 refine ⟨_,rfl,?_⟩
 have n0_:=Aside0.mk (Kd.N_lower (Kd.N_mono (ok':=fun k_=>True) (Kd.R_N (Kd.R_bound ho0)) (fun k_ hk_=>trivial)) (below_size (by repeat (first | (with_reducible first | exact HB.out | apply below_alloc | apply pw_below_drewN | apply below_drew1) | exact HB.out))))
 have n1_:=Aside0.mk (below_step (by repeat (first | (with_reducible first | exact HB.out | apply below_alloc | apply pw_below_drewN | apply below_drew1) | exact HB.out)) hb)
 clear HB
 have HO298:=n0_
 have HB:=n1_
 clear n0_ n1_
 (try clear hb)
 (try clear hb2)
 (try clear hk)
 (try clear hi)
 (try clear ho0)
 refine hK.out _ _ (Kd.C_below HR2.out HB.out) (fun hHeld=>?_)
 clear hK K
 refine norm_ (a':=?_) ?_ ?_
 rotate_left
 ·show Act.put _ (some 11) _=_
  simp only [Act.put,pbigx10lsb,pbigx10lsz,pbigx10lss,i64_w,i32_w]
  rfl
 refine one_ (i:=3) (N:=some 13) #[true,true,true,true,true,true,false,false,false,false,false,false,false,false,false] rfl rfl (one_of HT_.out (by kernel_rfl)) (by decide) (fun K hK=>?_)
 refine goes_ Tryd.func137 (by kernel_rfl) rfl #[.int .i64 a1] (by rfl) rfl rfl (by (try simp only [List.map_toArray,List.map_cons,List.map_nil]);first | done | rfl | (simp only [List.length_drop,List.length_take];rfl)) ?_
 with_reducible refine (R01_Int.calls a1 t299 t300 t301 t302 _ A5.out).mono ?_
 rintro e w12 ⟨v303,rfl,ho0,hb⟩
 refine ⟨_,rfl,?_⟩
 have n0_:=Aside0.mk (Kd.N_elder' (by (with_reducible repeat (first | apply Kd.N_alloc | apply Kd.N_drewN | apply Kd.N_drew));exact HO298.out) (by first | exact Kd.R_base ho0 | exact Kd.N_base ho0) hb)
 have n1_:=Aside0.mk (Kd.N_lower (Kd.N_mono (ok':=fun k_=>some k_ ≠ (v297 : Value).ownBlock) (Kd.R_N (Kd.R_bound ho0)) (fun k_ hk_=>(Kd.fresh' (Kd.N_lt (by (with_reducible repeat (first | apply Kd.N_alloc | apply Kd.N_drewN | apply Kd.N_drew));exact HO298.out)) k_ hk_.2.1))) (below_size (by repeat (first | (with_reducible first | exact HB.out | apply below_alloc | apply pw_below_drewN | apply below_drew1) | exact HB.out))))
 have n2_:=Aside0.mk (below_step (by repeat (first | (with_reducible first | exact HB.out | apply below_alloc | apply pw_below_drewN | apply below_drew1) | exact HB.out)) hb)
 clear HO298
 clear HB
 have HO298:=n0_
 have HO304:=n1_
 have HB:=n2_
 clear n0_ n1_ n2_
 (try clear hb)
 (try clear hb2)
 (try clear hk)
 (try clear hi)
 (try clear ho0)
 have hcv13:=Kd.C_string (P:=Tryd.prog) (A:=A2) (c:=c2) Tryd.underlying22 Tryd.underlying5 Tryd.underlying9 (Kd.C_below HR2.out HB.out)
 refine hK.out _ _ (Kd.C_below HR2.out HB.out) (fun hHeld=>?_)
 clear hK K
 refine norm_ (a':=?_) ?_ ?_
 rotate_left
 ·show Act.put _ (some 13) _=_
  simp only [Act.put,pbigx10lsb,pbigx10lsz,pbigx10lss,i64_w,i32_w]
  rfl
 refine one_ (i:=6) (N:=some 16) #[true,true,true,true,true,true,true,false,false,false,false,false,false,false,false] rfl rfl (one_of HT_.out (by kernel_rfl)) (by decide) (fun K hK=>?_)
 refine goes_ Tryd.func138 (by kernel_rfl) rfl #[.string (strOfNums l2)] (by rfl) rfl rfl (by (try simp only [List.map_toArray,List.map_cons,List.map_nil]);first | done | rfl | (simp only [List.length_drop,List.length_take];rfl)) ?_
 with_reducible refine (R01_Text.calls (strOfNums l2) t305 t306 t307 t308 _ A6.out).mono ?_
 rintro e w15 ⟨v309,rfl,ho0,hb⟩
 refine ⟨_,rfl,?_⟩
 have n0_:=Aside0.mk (Kd.N_elder' (by (with_reducible repeat (first | apply Kd.N_alloc | apply Kd.N_drewN | apply Kd.N_drew));exact HO298.out) (by first | exact Kd.R_base ho0 | exact Kd.N_base ho0) hb)
 have n1_:=Aside0.mk (Kd.N_elder' (by (with_reducible repeat (first | apply Kd.N_alloc | apply Kd.N_drewN | apply Kd.N_drew));exact HO304.out) (by first | exact Kd.R_base ho0 | exact Kd.N_base ho0) hb)
 have n2_:=Aside0.mk (Kd.N_lower (Kd.N_mono (ok':=fun k_=>some k_ ≠ (v297 : Value).ownBlock ∧ some k_ ≠ (v303 : Value).ownBlock) (Kd.R_N (Kd.R_bound ho0)) (fun k_ hk_=>⟨(Kd.fresh' (Kd.N_lt (by (with_reducible repeat (first | apply Kd.N_alloc | apply Kd.N_drewN | apply Kd.N_drew));exact HO298.out)) k_ hk_.2.1),(Kd.fresh' (Kd.N_lt (by (with_reducible repeat (first | apply Kd.N_alloc | apply Kd.N_drewN | apply Kd.N_drew));exact HO304.out)) k_ hk_.2.1)⟩)) (below_size (by repeat (first | (with_reducible first | exact HB.out | apply below_alloc | apply pw_below_drewN | apply below_drew1) | exact HB.out))))
 have n3_:=Aside0.mk (below_step (by repeat (first | (with_reducible first | exact HB.out | apply below_alloc | apply pw_below_drewN | apply below_drew1) | exact HB.out)) hb)
 clear HO298
 clear HO304
 clear HB
 have HO298:=n0_
 have HO304:=n1_
 have HO310:=n2_
 have HB:=n3_
 clear n0_ n1_ n2_ n3_
 (try clear hb)
 (try clear hb2)
 (try clear hk)
 (try clear hi)
 (try clear ho0)
 obtain ⟨Ao16,co16,eo16⟩:=Kd.N_slice HO298.out
 (first | subst eo16 | (injection eo16 with f1_ f2_ f3_;have f4_:=f1_.symm;have f5_:=f3_.symm;clear f1_ f2_ f3_;subst f4_;subst f5_))
 obtain ⟨Ao17,co17,eo17⟩:=Kd.N_slice HO304.out
 (first | subst eo17 | (injection eo17 with f1_ f2_ f3_;have f4_:=f1_.symm;have f5_:=f3_.symm;clear f1_ f2_ f3_;subst f4_;subst f5_))
 obtain ⟨Ao18,co18,eo18⟩:=Kd.N_slice HO310.out
 (first | subst eo18 | (injection eo18 with f1_ f2_ f3_;have f4_:=f1_.symm;have f5_:=f3_.symm;clear f1_ f2_ f3_;subst f4_;subst f5_))
 refine hK.out _ _ (Kd.C_below HR2.out HB.out) (fun hHeld=>?_)
 clear hK K
 refine norm_ (a':=?_) ?_ ?_
 rotate_left
 ·show Act.put _ (some 16) _=_
  simp only [Act.put,pbigx10lsb,pbigx10lsz,pbigx10lss,i64_w,i32_w]
  rfl
 refine one_ (i:=7) (N:=some 17) #[true,true,true,true,true,true,true,true,false,false,false,false,false,false,false] rfl rfl (one_of HT_.out (by kernel_rfl)) (by decide) (fun K hK=>?_)
 refine Kd.N_lit_step k93 _ 93 ?hg (N':=17) ?hd (xs:=([(⟨t293,t294,t295,t296⟩ : S93),(⟨t299,t300,t301,t302⟩ : S93),(⟨t305,t306,t307,t308⟩ : S93)] : List (S93))) (inner:=[.int .i64 t293,.int .i64 t294,.string t295,.slice Ao16 t296.length co16,.int .i64 t299,.int .i64 t300,.string t301,.slice Ao17 t302.length co17,.int .i64 t305,.int .i64 t306,.string t307,.slice Ao18 t308.length co18]) (ok:=(fun _=>True)) (okp:=(fun _=>True)) ?hr ?hp (fun _ hk=>hk) ((show ∀ k_,w15.heap.size ≤ k_ → (fun _=>True) k_ from fun k_ hk=>trivial) _ (Nat.le_refl _)) (Below.refl _ _) (Nat.le_refl _) (by simp) ?_;(case hd=>rfl);(case hg=>rfl);(case hr=>first | (go_simp;done) | (go_simp;rfl));(case hp=>exact (Reps.c4 (show Kd.FK k93 _ _ (⟨t293,t294,t295,t296⟩ : S93) [.int .i64 t293,.int .i64 t294,.string t295,.slice Ao16 t296.length co16] from (k93_mkF _ _ (⟨t293,t294,t295,t296⟩ : S93) (Kd.N_reads' (Kd.N_mono (ok':=(fun _=>True)) (HO298.out) (fun k_ hk=>trivial))).2.1 (Kd.N_F (Kd.N_mono (ok':=(fun _=>True)) (HO298.out) (fun k_ hk=>trivial))))) (Reps.c4 (show Kd.FK k93 _ _ (⟨t299,t300,t301,t302⟩ : S93) [.int .i64 t299,.int .i64 t300,.string t301,.slice Ao17 t302.length co17] from (k93_mkF _ _ (⟨t299,t300,t301,t302⟩ : S93) (Kd.N_reads' (Kd.N_mono (ok':=(fun _=>True)) (HO304.out) (fun k_ hk=>trivial))).2.1 (Kd.N_F (Kd.N_mono (ok':=(fun _=>True)) (HO304.out) (fun k_ hk=>trivial))))) (Reps.c4 (show Kd.FK k93 _ _ (⟨t305,t306,t307,t308⟩ : S93) [.int .i64 t305,.int .i64 t306,.string t307,.slice Ao18 t308.length co18] from (k93_mkF _ _ (⟨t305,t306,t307,t308⟩ : S93) (Kd.N_reads' (Kd.N_mono (ok':=(fun _=>True)) (HO310.out) (fun k_ hk=>trivial))).2.1 (Kd.N_F (Kd.N_mono (ok':=(fun _=>True)) (HO310.out) (fun k_ hk=>trivial))))) (Reps.none _ _)))))
 intro v312 w19 ho20 hb hg_ hnew_
 clear hg_ hnew_
 (first | rw [← Ny311.out] at ho20 | (simp only [Int.reduceToNat] at ho20;rw [← Ny311.out] at ho20))
 have n0_:=Aside0.mk (Kd.N_lower ho20 (below_size (by repeat (first | (with_reducible first | exact HB.out | apply below_alloc | apply pw_below_drewN | apply below_drew1) | exact HB.out))))
 have n1_:=Aside0.mk (below_step (by repeat (first | (with_reducible first | exact HB.out | apply below_alloc | apply pw_below_drewN | apply below_drew1) | exact HB.out)) hb)
 clear HB
 clear HO298
 clear HO304
 clear HO310
 have HO313:=n0_
 have HB:=n1_
 clear n0_ n1_
 clear hb ho20
 obtain ⟨Ao21,co21,eo21⟩:=Kd.N_slice HO313.out
 (first | subst eo21 | (injection eo21 with f1_ f2_ f3_;have f4_:=f1_.symm;have f5_:=f3_.symm;clear f1_ f2_ f3_;subst f4_;subst f5_))
 refine hK.out _ _ (Kd.C_below HR2.out HB.out) (fun hHeld=>?_)
 clear hK K
 refine norm_ (a':=?_) ?_ ?_
 rotate_left
 ·show Act.put _ (some 17) _=_
  simp only [Act.put,pbigx10lsb,pbigx10lsz,pbigx10lss,i64_w,i32_w]
  rfl
 refine one_ (i:=8) (N:=some 18) #[true,true,true,true,true,true,true,true,true,false,false,false,false,false,false] rfl rfl (one_of HT_.out (by kernel_rfl)) (by decide) (fun K hK=>?_)
 refine goes_ Tryd.func136 (by kernel_rfl) rfl #[.slice Ao21 y311.length co21] (by rfl) rfl rfl (by (try simp only [List.map_toArray,List.map_cons,List.map_nil]);first | done | rfl | (simp only [List.length_drop,List.length_take];rfl)) ?_
 with_reducible refine (R01_List.calls (fun k_=>True) _ _ y311 t314 t315 t316 t317 _ ?side1 A7.out).mono ?_
 (case side1=>exact Kd.N_V (HO313.out))
 rintro e w22 ⟨v318,rfl,ho0,hb⟩
 refine ⟨_,rfl,?_⟩
 have n0_:=Aside0.mk (Kd.N_below (by (with_reducible repeat (first | apply Kd.N_alloc | apply Kd.N_drewN | apply Kd.N_drew));exact HO313.out) hb)
 have n1_:=Aside0.mk (Kd.V_lower (Kd.V_mono (ok':=fun k_=>True) ho0 (fun k_ hk_=>trivial)) (below_size (by repeat (first | (with_reducible first | exact HB.out | apply below_alloc | apply pw_below_drewN | apply below_drew1) | exact HB.out))))
 have n2_:=Aside0.mk (below_step (by repeat (first | (with_reducible first | exact HB.out | apply below_alloc | apply pw_below_drewN | apply below_drew1) | exact HB.out)) hb)
 clear HO313
 clear HB
 have HO313:=n0_
 have HO319:=n1_
 have HB:=n2_
 clear n0_ n1_ n2_
 (try clear hb)
 (try clear hb2)
 (try clear hk)
 (try clear hi)
 (try clear ho0)
 obtain ⟨Ao23,co23,eo23⟩:=Kd.V_slice HO319.out
 (first | subst eo23 | (injection eo23 with f1_ f2_ f3_;have f4_:=f1_.symm;have f5_:=f3_.symm;clear f1_ f2_ f3_;subst f4_;subst f5_))
 refine hK.out _ _ (Kd.C_below HR2.out HB.out) (fun hHeld=>?_)
 clear hK K
 refine norm_ (a':=?_) ?_ ?_
 rotate_left
 ·show Act.put _ (some 18) _=_
  simp only [Act.put,pbigx10lsb,pbigx10lsz,pbigx10lss,i64_w,i32_w]
  rfl
 refine one_ (i:=9) (N:=some 19) #[true,true,true,true,true,true,true,true,true,true,false,false,false,false,false] rfl rfl (one_of HT_.out (by kernel_rfl)) (by decide) (fun K hK=>?_)
 refine goes_ Tryd.func132 (by kernel_rfl) rfl #[.agg #[.int .i64 t314,.int .i64 t315,.string t316,.slice Ao23 t317.length co23]] (by rfl) rfl rfl (by (try simp only [List.map_toArray,List.map_cons,List.map_nil]);first | done | rfl | (simp only [List.length_drop,List.length_take];rfl)) ?_
 with_reducible refine (R01_Encode.calls k t314 t315 t316 _ _ t317 t320 t323 _ ?side1 ?side2 A8.out).mono ?_
 (case side1=>repeat (first | exact (Kd.V_reads' HO319.out).2.2 | (with_reducible refine Kd.C_alloc ?_ _) | (with_reducible refine Kd.C_drewN ?_ _) | (with_reducible refine Kd.C_drew ?_)))
 (case side2=>exact (Kd.V_reads' HO319.out).2.1)
 rintro e w24 ⟨v321,rfl,ho0,hb⟩
 refine ⟨_,rfl,?_⟩
 have n0_:=Aside0.mk (Kd.N_elder' (by (with_reducible repeat (first | apply Kd.N_alloc | apply Kd.N_drewN | apply Kd.N_drew));exact HO313.out) (Kd.R_base ho0) hb)
 have n1_:=Aside0.mk (Kd.V_elder' (by (with_reducible repeat (first | apply Kd.V_alloc | apply Kd.V_drewN | apply Kd.V_drew));exact HO319.out) (Kd.R_base ho0) hb)
 have n2_:=Aside0.mk (Kd.R_lower ho0 (below_size (by repeat (first | (with_reducible first | exact HB.out | apply below_alloc | apply pw_below_drewN | apply below_drew1) | exact HB.out))))
 have n3_:=Aside0.mk (below_step (by repeat (first | (with_reducible first | exact HB.out | apply below_alloc | apply pw_below_drewN | apply below_drew1) | exact HB.out)) hb)
 clear HO313
 clear HO319
 clear HB
 have HO313:=n0_
 have HO319:=n1_
 have HO322:=n2_
 have HB:=n3_
 clear n0_ n1_ n2_ n3_
 (try clear hb)
 (try clear hb2)
 (try clear hk)
 (try clear hi)
 (try clear ho0)
 refine hK.out _ _ (Kd.C_below HR2.out HB.out) (fun hHeld=>?_)
 clear hK K
 refine norm_ (a':=?_) ?_ ?_
 rotate_left
 ·show Act.put _ (some 19) _=_
  simp only [Act.put,pbigx10lsb,pbigx10lsz,pbigx10lss,i64_w,i32_w]
  rfl
 refine pure_ (i:=10) (N:=some 9) (v:=?_) (a':=?_) #[true,true,true,true,true,true,true,true,true,true,true,false,false,false,false] rfl rfl (any_of HT_.out (by kernel_rfl)) (fun _ _ _ h=>h) (Or.inl ⟨by rfl,?_⟩) ?_ ?_
 rotate_left
 ·intro w'
  go_simp
  with_reducible rfl
 rotate_left
 ·simp only [Act.put,pbigx10lsb,pbigx10lsz,pbigx10lss,i64_w,i32_w]
  rfl
 refine pure_ (i:=11) (N:=some 20) (v:=?_) (a':=?_) #[true,true,true,true,true,true,true,true,true,true,true,true,false,false,false] rfl rfl (any_of HT_.out (by kernel_rfl)) (fun _ _ _ h=>h) (Or.inl ⟨by rfl,?_⟩) ?_ ?_
 rotate_left
 ·intro w'
  go_simp
  with_reducible rfl
 rotate_left
 ·simp only [Act.put,pbigx10lsb,pbigx10lsz,pbigx10lss,i64_w,i32_w]
  rfl
 refine pure_ (i:=12) (N:=some 21) (v:=?_) (a':=?_) #[true,true,true,true,true,true,true,true,true,true,true,true,true,false,false] rfl rfl (any_of HT_.out (by kernel_rfl)) (fun _ _ _ h=>h) (Or.inl ⟨by rfl,?_⟩) ?_ ?_
 rotate_left
 ·intro w'
  go_simp
  with_reducible rfl
 rotate_left
 ·simp only [Act.put,pbigx10lsb,pbigx10lsz,pbigx10lss,i64_w,i32_w]
  rfl
 refine pure_ (i:=13) (N:=some 7) (v:=?_) (a':=?_) #[true,true,true,true,true,true,true,true,true,true,true,true,true,true,false] rfl rfl (any_of HT_.out (by kernel_rfl)) (fun _ _ _ h=>h) (Or.inl ⟨by rfl,?_⟩) ?_ ?_
 rotate_left
 ·intro w'
  go_simp
  with_reducible rfl
 rotate_left
 ·simp only [Act.put,pbigx10lsb,pbigx10lsz,pbigx10lss,i64_w,i32_w]
  rfl
 refine pure_ (i:=14) (N:=some 8) (v:=?_) (a':=?_) #[true,true,true,true,true,true,true,true,true,true,true,true,true,true,true] rfl rfl (any_of HT_.out (by kernel_rfl)) (fun _ _ _ h=>h) (Or.inl ⟨by rfl,?_⟩) ?_ ?_
 rotate_left
 ·intro w'
  go_simp
  with_reducible rfl
 rotate_left
 ·simp only [Act.put,pbigx10lsb,pbigx10lsz,pbigx10lss,i64_w,i32_w]
  rfl
 refine done_ (done_of HT_.out (by kernel_rfl)) ?_
 obtain ⟨Ao25,co25,eo25⟩:=Kd.R_slice HO322.out
 subst eo25
 try go_wp2_with (first | ((with_reducible refine gate_callee (f:=21) rfl ?_);refine goesL_ (some 23) rfl rfl Tryd.func21 (by kernel_rfl) rfl #[.string (⟨#[115,105,103,110]⟩ : ByteArray),.slice Ao25 t320.length co25] rfl (by (try simp only [List.map_toArray,List.map_cons,List.map_nil]);first | done | rfl | (simp only [List.length_drop,List.length_take];rfl)) ?_;(with_reducible refine (R10_Hash.calls (⟨#[115,105,103,110]⟩ : ByteArray) _ _ t320 t324 _ ?side1 ?side2 A9.out).mono ?_);(case side1=>repeat (first | exact (Kd.R_reads' HO322.out).2.2 | (with_reducible refine Kd.C_alloc ?_ _) | (with_reducible refine Kd.C_drewN ?_ _) | (with_reducible refine Kd.C_drew ?_)));(case side2=>exact (Kd.R_reads' HO322.out).2.1);rintro e w26 ⟨rfl,hb⟩;refine ⟨_,rfl,?_⟩;have n0_:=Aside0.mk (Kd.N_below (by (with_reducible repeat (first | apply Kd.N_alloc | apply Kd.N_drewN | apply Kd.N_drew));exact HO313.out) hb);have n1_:=Aside0.mk (Kd.V_below (by (with_reducible repeat (first | apply Kd.V_alloc | apply Kd.V_drewN | apply Kd.V_drew));exact HO319.out) hb);have n2_:=Aside0.mk (Kd.R_below (by (with_reducible repeat (first | apply Kd.R_alloc | apply Kd.R_drewN | apply Kd.R_drew));exact HO322.out) hb);have n3_:=Aside0.mk (below_step (by repeat (first | (with_reducible first | exact HB.out | apply below_alloc | apply pw_below_drewN | apply below_drew1) | exact HB.out)) hb);clear HO313;clear HO319;clear HO322;clear HB;have HO313:=n0_;have HO319:=n1_;have HO322:=n2_;have HB:=n3_;clear n0_ n1_ n2_ n3_;(try clear hb);(try clear hb2);(try clear hk);(try clear hi)))
 go_ret
 exact ⟨by first | rfl | (simp [errW_none,errW_some] <;> rfl) | (simp [*,errW_none,errW_some] <;> rfl),by repeat (first | (with_reducible first | exact HB.out | apply below_alloc | apply pw_below_drewN | apply below_drew1) | exact HB.out)⟩
def R10_exponent.f (a0 : Int) : Option (Int):=if (Int.tmod a0 1073741789) < 0 then (some (wrap64 ((Int.tmod a0 1073741789) + 1073741789))) else (some (Int.tmod a0 1073741789))
set_option maxHeartbeats 8000000 in
set_option maxRecDepth 100000 in
theorem R10_exponent.calls (a0 : Int) (r : Int) (w : World) (h : R10_exponent.f a0=some r) :
  Calls Tryd.prog 131 #[.int .i64 a0] w fun e w'=>e=.returned (.int .i64 r) ∧ Drawn0 w w':=by
 have H : (if (Int.tmod a0 1073741789) < 0 then (some (wrap64 ((Int.tmod a0 1073741789) + 1073741789))) else (some (Int.tmod a0 1073741789)))=some r:=h
 clear h
 by_cases c2 : (Int.tmod a0 1073741789) < 0
 ·rw [if_pos c2] at H
  have c2b0 : decide ((Int.tmod a0 1073741789) < 0)=true:=decide_eq_true c2
  clear c2
  obtain rfl:=Option.some.inj H
  go_enter Tryd.func131,Tryd.ntmps131
  go_wp2
  go_ret
  exact ⟨by first | rfl | (simp;done) | (simp [*];done),by repeat (first | exact Drawn0.refl _ | apply Drawn0.step)⟩
 ·rw [if_neg c2] at H
  have c2b0 : decide ((Int.tmod a0 1073741789) < 0)=false:=decide_eq_false c2
  clear c2
  obtain rfl:=Option.some.inj H
  go_enter Tryd.func131,Tryd.ntmps131
  go_wp2
  go_ret
  exact ⟨by first | rfl | (simp;done) | (simp [*];done),by repeat (first | exact Drawn0.refl _ | apply Drawn0.step)⟩
def R10_Pow.f (k : Nat) (a0 : Int) (a1 : Int) : Option (Int × Int):=(R10_Valid.f k a0).bind fun t325=>(if t325=true then ((R10_exponent.f a1).bind fun t326=>((R10_power.f k a0 t326).bind fun t327=>(some (t327,0)))) else (some (0,100)))
theorem R10_Pow.mono : ∀ a0 a1 k,LeO (R10_Pow.f k a0 a1) (R10_Pow.f (k + 1) a0 a1):=by
 intro a0 a1 k
 unfold R10_Pow.f
 repeat' first
   | (with_reducible exact R10_Valid.mono _ _)
   | (with_reducible exact R10_power.mono _ _ _)
   | (with_reducible exact LeO.refl _)
   | (with_reducible exact LeO.none _)
   | (with_reducible refine LeO.ite ?_ ?_)
   | (with_reducible refine LeO.bind ?_ (fun _=>?_))
   | exact R10_Valid.mono _ _
   | exact R10_power.mono _ _ _
   | exact LeO.none _
   | refine LeO.ite ?_ ?_
   | refine LeO.bind ?_ (fun _=>?_)
set_option maxHeartbeats 8000000 in
set_option maxRecDepth 100000 in
theorem R10_Pow.calls (k : Nat) (a0 : Int) (a1 : Int) (r1 : Int) (r2 : Int) (w : World) (h : R10_Pow.f k a0 a1=some (r1,r2)) :
  Calls Tryd.prog 104 #[.int .i64 a0,.int .i64 a1] w fun e w'=>e=.returned (.tuple #[.int .i64 r1,.int .i64 r2]) ∧ Drawn0 w w':=by
 have H : ((R10_Valid.f k a0).bind fun t325=>(if t325=true then ((R10_exponent.f a1).bind fun t326=>((R10_power.f k a0 t326).bind fun t327=>(some (t327,0)))) else (some (0,100))))=some (r1,r2):=h
 clear h
 replace H:=Option.bind_eq_some_iff.mp H
 obtain ⟨t325,A30,H⟩:=H
 replace H : (if t325=true then ((R10_exponent.f a1).bind fun t326=>((R10_power.f k a0 t326).bind fun t327=>(some (t327,0)))) else (some (0,100)))=some (r1,r2):=H
 have A3:=Aside0.mk A30
 clear A30
 by_cases c4 : t325=true
 ·subst c4
  have H1 : ((R10_exponent.f a1).bind fun t326=>((R10_power.f k a0 t326).bind fun t327=>(some (t327,0))))=some (r1,r2):=by rw [if_pos rfl] at H;exact H
  clear H
  have H:=H1
  clear H1
  replace H:=Option.bind_eq_some_iff.mp H
  obtain ⟨t326,A50,H⟩:=H
  replace H : ((R10_power.f k a0 t326).bind fun t327=>(some (t327,0)))=some (r1,r2):=H
  have A5:=Aside0.mk A50
  clear A50
  replace H:=Option.bind_eq_some_iff.mp H
  obtain ⟨t327,A60,H⟩:=H
  replace H : (some (t327,0))=some (r1,r2):=H
  have A6:=Aside0.mk A60
  clear A60
  simp only [Option.some.injEq,Prod.mk.injEq] at H
  obtain ⟨rfl,rfl⟩:=H
  go_enter Tryd.func104,Tryd.ntmps104
  go_wp2_with (first | ((with_reducible refine gate_callee (f:=55) rfl ?_);refine goesL_ (some 7) rfl rfl Tryd.func55 (by kernel_rfl) rfl #[.int .i64 a0] rfl (by (try simp only [List.map_toArray,List.map_cons,List.map_nil]);first | done | rfl | (simp only [List.length_drop,List.length_take];rfl)) ?_;(with_reducible refine (R10_Valid.calls k a0 true _ A3.out).mono ?_);rintro e w' ⟨rfl,⟨nd,rfl⟩⟩;refine ⟨_,rfl,?_⟩) | ((with_reducible refine gate_callee (f:=131) rfl ?_);refine goesL_ (some 11) rfl rfl Tryd.func131 (by kernel_rfl) rfl #[.int .i64 a1] rfl (by (try simp only [List.map_toArray,List.map_cons,List.map_nil]);first | done | rfl | (simp only [List.length_drop,List.length_take];rfl)) ?_;(with_reducible refine (R10_exponent.calls a1 t326 _ A5.out).mono ?_);rintro e w' ⟨rfl,⟨nd,rfl⟩⟩;refine ⟨_,rfl,?_⟩) | ((with_reducible refine gate_callee (f:=93) rfl ?_);refine goesL_ (some 12) rfl rfl Tryd.func93 (by kernel_rfl) rfl #[.int .i64 a0,.int .i64 t326] rfl (by (try simp only [List.map_toArray,List.map_cons,List.map_nil]);first | done | rfl | (simp only [List.length_drop,List.length_take];rfl)) ?_;(with_reducible refine (R10_power.calls k a0 t326 t327 _ A6.out).mono ?_);rintro e w' ⟨rfl,⟨nd,rfl⟩⟩;refine ⟨_,rfl,?_⟩))
  go_ret2
  exact ⟨by first | rfl | (simp;done) | (simp [*];done),by repeat (first | exact Drawn0.refl _ | apply Drawn0.step)⟩
 ·replace c4:=Bool.eq_false_iff.mpr c4
  subst c4
  have H1 : (some (0,100))=some (r1,r2):=by rw [if_neg (show ¬ (false=true) by decide)] at H;exact H
  clear H
  have H:=H1
  clear H1
  simp only [Option.some.injEq,Prod.mk.injEq] at H
  obtain ⟨rfl,rfl⟩:=H
  go_enter Tryd.func104,Tryd.ntmps104
  go_wp2_with (first | ((with_reducible refine gate_callee (f:=55) rfl ?_);refine goesL_ (some 7) rfl rfl Tryd.func55 (by kernel_rfl) rfl #[.int .i64 a0] rfl (by (try simp only [List.map_toArray,List.map_cons,List.map_nil]);first | done | rfl | (simp only [List.length_drop,List.length_take];rfl)) ?_;(with_reducible refine (R10_Valid.calls k a0 false _ A3.out).mono ?_);rintro e w' ⟨rfl,⟨nd,rfl⟩⟩;refine ⟨_,rfl,?_⟩))
  go_ret2
  exact ⟨by first | rfl | (simp;done) | (simp [*];done),by repeat (first | exact Drawn0.refl _ | apply Drawn0.step)⟩
def R10_Mul.f (k : Nat) (a0 : Int) (a1 : Int) : Option (Int × Int):=(R10_Valid.f k a0).bind fun t328=>(if t328=true then ((R10_Valid.f k a1).bind fun t329=>(if t329=true then (some (Int.tmod (wrap64 (a0 * a1)) 2147483579,0)) else (some (0,100)))) else (some (0,100)))
theorem R10_Mul.mono : ∀ a0 a1 k,LeO (R10_Mul.f k a0 a1) (R10_Mul.f (k + 1) a0 a1):=by
 intro a0 a1 k
 unfold R10_Mul.f
 repeat' first
   | (with_reducible exact R10_Valid.mono _ _)
   | (with_reducible exact LeO.refl _)
   | (with_reducible exact LeO.none _)
   | (with_reducible refine LeO.ite ?_ ?_)
   | (with_reducible refine LeO.bind ?_ (fun _=>?_))
   | exact R10_Valid.mono _ _
   | exact LeO.none _
   | refine LeO.ite ?_ ?_
   | refine LeO.bind ?_ (fun _=>?_)
set_option maxHeartbeats 8000000 in
set_option maxRecDepth 100000 in
theorem R10_Mul.calls (k : Nat) (a0 : Int) (a1 : Int) (r1 : Int) (r2 : Int) (w : World) (h : R10_Mul.f k a0 a1=some (r1,r2)) :
  Calls Tryd.prog 139 #[.int .i64 a0,.int .i64 a1] w fun e w'=>e=.returned (.tuple #[.int .i64 r1,.int .i64 r2]) ∧ Drawn0 w w':=by
 have H : ((R10_Valid.f k a0).bind fun t328=>(if t328=true then ((R10_Valid.f k a1).bind fun t329=>(if t329=true then (some (Int.tmod (wrap64 (a0 * a1)) 2147483579,0)) else (some (0,100)))) else (some (0,100))))=some (r1,r2):=h
 clear h
 replace H:=Option.bind_eq_some_iff.mp H
 obtain ⟨t328,A30,H⟩:=H
 replace H : (if t328=true then ((R10_Valid.f k a1).bind fun t329=>(if t329=true then (some (Int.tmod (wrap64 (a0 * a1)) 2147483579,0)) else (some (0,100)))) else (some (0,100)))=some (r1,r2):=H
 have A3:=Aside0.mk A30
 clear A30
 by_cases c4 : t328=true
 ·subst c4
  have H1 : ((R10_Valid.f k a1).bind fun t329=>(if t329=true then (some (Int.tmod (wrap64 (a0 * a1)) 2147483579,0)) else (some (0,100))))=some (r1,r2):=by rw [if_pos rfl] at H;exact H
  clear H
  have H:=H1
  clear H1
  replace H:=Option.bind_eq_some_iff.mp H
  obtain ⟨t329,A50,H⟩:=H
  replace H : (if t329=true then (some (Int.tmod (wrap64 (a0 * a1)) 2147483579,0)) else (some (0,100)))=some (r1,r2):=H
  have A5:=Aside0.mk A50
  clear A50
  by_cases c6 : t329=true
  ·subst c6
   have H1 : (some (Int.tmod (wrap64 (a0 * a1)) 2147483579,0))=some (r1,r2):=by rw [if_pos rfl] at H;exact H
   clear H
   have H:=H1
   clear H1
   simp only [Option.some.injEq,Prod.mk.injEq] at H
   obtain ⟨rfl,rfl⟩:=H
   go_enter Tryd.func139,Tryd.ntmps139
   go_wp2_with (first | ((with_reducible refine gate_callee (f:=55) rfl ?_);refine goesL_ (some 7) rfl rfl Tryd.func55 (by kernel_rfl) rfl #[.int .i64 a0] rfl (by (try simp only [List.map_toArray,List.map_cons,List.map_nil]);first | done | rfl | (simp only [List.length_drop,List.length_take];rfl)) ?_;(with_reducible refine (R10_Valid.calls k a0 true _ A3.out).mono ?_);rintro e w' ⟨rfl,⟨nd,rfl⟩⟩;refine ⟨_,rfl,?_⟩) | (go_at_call 55;(with_reducible refine (R10_Valid.calls k a1 true _ A5.out).mono ?_);rintro e w' ⟨rfl,⟨nd,rfl⟩⟩))
   go_ret2
   exact ⟨by first | rfl | (simp;done) | (simp [*];done),by repeat (first | exact Drawn0.refl _ | apply Drawn0.step)⟩
  ·replace c6:=Bool.eq_false_iff.mpr c6
   subst c6
   have H1 : (some (0,100))=some (r1,r2):=by rw [if_neg (show ¬ (false=true) by decide)] at H;exact H
   clear H
   have H:=H1
   clear H1
   simp only [Option.some.injEq,Prod.mk.injEq] at H
   obtain ⟨rfl,rfl⟩:=H
   go_enter Tryd.func139,Tryd.ntmps139
   go_wp2_with (first | ((with_reducible refine gate_callee (f:=55) rfl ?_);refine goesL_ (some 7) rfl rfl Tryd.func55 (by kernel_rfl) rfl #[.int .i64 a0] rfl (by (try simp only [List.map_toArray,List.map_cons,List.map_nil]);first | done | rfl | (simp only [List.length_drop,List.length_take];rfl)) ?_;(with_reducible refine (R10_Valid.calls k a0 true _ A3.out).mono ?_);rintro e w' ⟨rfl,⟨nd,rfl⟩⟩;refine ⟨_,rfl,?_⟩) | (go_at_call 55;(with_reducible refine (R10_Valid.calls k a1 false _ A5.out).mono ?_);rintro e w' ⟨rfl,⟨nd,rfl⟩⟩))
   go_ret2
   exact ⟨by first | rfl | (simp;done) | (simp [*];done),by repeat (first | exact Drawn0.refl _ | apply Drawn0.step)⟩
 ·replace c4:=Bool.eq_false_iff.mpr c4
  subst c4
  have H1 : (some (0,100))=some (r1,r2):=by rw [if_neg (show ¬ (false=true) by decide)] at H;exact H
  clear H
  have H:=H1
  clear H1
  simp only [Option.some.injEq,Prod.mk.injEq] at H
  obtain ⟨rfl,rfl⟩:=H
  go_enter Tryd.func139,Tryd.ntmps139
  go_wp2_with (first | ((with_reducible refine gate_callee (f:=55) rfl ?_);refine goesL_ (some 7) rfl rfl Tryd.func55 (by kernel_rfl) rfl #[.int .i64 a0] rfl (by (try simp only [List.map_toArray,List.map_cons,List.map_nil]);first | done | rfl | (simp only [List.length_drop,List.length_take];rfl)) ?_;(with_reducible refine (R10_Valid.calls k a0 false _ A3.out).mono ?_);rintro e w' ⟨rfl,⟨nd,rfl⟩⟩;refine ⟨_,rfl,?_⟩))
  go_ret2
  exact ⟨by first | rfl | (simp;done) | (simp [*];done),by repeat (first | exact Drawn0.refl _ | apply Drawn0.step)⟩
def R11_Point.f (k : Nat) (a0 : Int) (a1_0 : Int) (a1_1 : Int) : Option (Int):=(R10_Pow.f k 4 a1_1).bind fun bt331=>((R10_Pow.f k a0 (wrap64 (-a1_0))).bind fun bt333=>((R10_Mul.f k bt331.1 bt333.1).bind fun bt335=>(some bt335.1)))
theorem R11_Point.mono : ∀ a0 a1 a2 k,LeO (R11_Point.f k a0 a1 a2) (R11_Point.f (k + 1) a0 a1 a2):=by
 intro a0 a1 a2 k
 unfold R11_Point.f
 repeat' first
   | (with_reducible exact R10_Mul.mono _ _ _)
   | (with_reducible exact R10_Pow.mono _ _ _)
   | (with_reducible exact LeO.refl _)
   | (with_reducible exact LeO.none _)
   | (with_reducible refine LeO.ite ?_ ?_)
   | (with_reducible refine LeO.bind ?_ (fun _=>?_))
   | exact R10_Mul.mono _ _ _
   | exact R10_Pow.mono _ _ _
   | exact LeO.none _
   | refine LeO.ite ?_ ?_
   | refine LeO.bind ?_ (fun _=>?_)
set_option maxHeartbeats 8000000 in
set_option maxRecDepth 100000 in
theorem R11_Point.calls (k : Nat) (a0 : Int) (a1_0 : Int) (a1_1 : Int) (r : Int) (w : World) (h : R11_Point.f k a0 a1_0 a1_1=some r) :
  Calls Tryd.prog 119 #[.int .i64 a0,.agg #[.int .i64 a1_0,.int .i64 a1_1]] w fun e w'=>e=.returned (.int .i64 r) ∧ Below w.heap.size w w':=by
 have hu73:=Tryd.underlying73
 have HB:=Aside0.mk (Below.refl w.heap.size w)
 have H : ((R10_Pow.f k 4 a1_1).bind fun bt331=>((R10_Pow.f k a0 (wrap64 (-a1_0))).bind fun bt333=>((R10_Mul.f k bt331.1 bt333.1).bind fun bt335=>(some bt335.1))))=some r:=h
 clear h
 replace H:=Option.bind_eq_some_iff.mp H
 obtain ⟨⟨t331,t332⟩,A30,H⟩:=H
 replace H : ((R10_Pow.f k a0 (wrap64 (-a1_0))).bind fun bt333=>((R10_Mul.f k t331 bt333.1).bind fun bt335=>(some bt335.1)))=some r:=H
 have A3:=Aside0.mk A30
 clear A30
 replace H:=Option.bind_eq_some_iff.mp H
 obtain ⟨⟨t333,t334⟩,A40,H⟩:=H
 replace H : ((R10_Mul.f k t331 t333).bind fun bt335=>(some bt335.1))=some r:=H
 have A4:=Aside0.mk A40
 clear A40
 replace H:=Option.bind_eq_some_iff.mp H
 obtain ⟨⟨t335,t336⟩,A50,H⟩:=H
 replace H : (some t335)=some r:=H
 have A5:=Aside0.mk A50
 clear A50
 obtain rfl:=Option.some.inj H
 go_enter Tryd.func119,Tryd.ntmps119
 go_wp2_with (first | ((with_reducible refine gate_dst (N:=3) rfl ?_);refine box_event ?hg (N:=3) ?hd (cs:=#[.int .i64 a1_0,.int .i64 a1_1]) (t:=73) ?hr ?_;(case hd=>rfl);(case hg=>rfl);(case hr=>first | (go_simp;done) | (go_simp;rfl));intro gb330 hg w6 hbox hb;have n0_:=Aside0.mk (below_step (by repeat (first | (with_reducible first | exact HB.out | apply below_alloc | apply pw_below_drewN | apply below_drew1) | exact HB.out)) hb);have n1_:=Aside0.mk (hbox);have n2_:=Aside0.mk ((by rw [hg];exact (below_size (by repeat (first | (with_reducible first | exact HB.out | apply below_alloc | apply pw_below_drewN | apply below_drew1) | exact HB.out))) : w.heap.size ≤ gb330));have n3_:=Aside0.mk ((by rw [hg];exact (below_size (by repeat (first | (with_reducible first | exact HB.out | apply below_alloc | apply pw_below_drewN | apply below_drew1) | exact HB.out))) : w.heap.size ≤ gb330));clear HB;have HB:=n0_;have BK330:=n1_;have GW330:=n2_;have GE330:=n3_;clear n0_ n1_ n2_ n3_;clear hb hbox hg;have hcz7_0 : w6.cell? ⟨gb330,0,none⟩=some (.int .i64 a1_0):=(blk_cell BK330.out 0).trans rfl;have hcz7_1 : w6.cell? ⟨gb330,1,none⟩=some (.int .i64 a1_1):=(blk_cell BK330.out 1).trans rfl;have hfz7_0:=blk_frozen BK330.out 0;have hfz7_1:=blk_frozen BK330.out 1) | ((with_reducible refine gate_callee (f:=104) rfl ?_);refine goesL_ (some 14) rfl rfl Tryd.func104 (by kernel_rfl) rfl #[.int .i64 4,.int .i64 a1_1] rfl (by (try simp only [List.map_toArray,List.map_cons,List.map_nil]);first | done | rfl | (simp only [List.length_drop,List.length_take];rfl)) ?_;(with_reducible refine (R10_Pow.calls k 4 a1_1 t331 t332 _ A3.out).mono ?_);rintro e w' ⟨rfl,⟨nd,rfl⟩⟩;refine ⟨_,rfl,?_⟩) | ((with_reducible refine gate_callee (f:=104) rfl ?_);refine goesL_ (some 22) rfl rfl Tryd.func104 (by kernel_rfl) rfl #[.int .i64 a0,.int .i64 (wrap64 (-a1_0))] rfl (by (try simp only [List.map_toArray,List.map_cons,List.map_nil]);first | done | rfl | (simp only [List.length_drop,List.length_take];rfl)) ?_;(with_reducible refine (R10_Pow.calls k a0 (wrap64 (-a1_0)) t333 t334 _ A4.out).mono ?_);rintro e w' ⟨rfl,⟨nd,rfl⟩⟩;refine ⟨_,rfl,?_⟩) | ((with_reducible refine gate_callee (f:=139) rfl ?_);refine goesL_ (some 28) rfl rfl Tryd.func139 (by kernel_rfl) rfl #[.int .i64 t331,.int .i64 t333] rfl (by (try simp only [List.map_toArray,List.map_cons,List.map_nil]);first | done | rfl | (simp only [List.length_drop,List.length_take];rfl)) ?_;(with_reducible refine (R10_Mul.calls k t331 t333 t335 t336 _ A5.out).mono ?_);rintro e w' ⟨rfl,⟨nd,rfl⟩⟩;refine ⟨_,rfl,?_⟩))
 go_ret
 exact ⟨by first | rfl | (simp [errW_none,errW_some] <;> rfl) | (simp [*,errW_none,errW_some] <;> rfl),by repeat (first | (with_reducible first | exact HB.out | apply below_alloc | apply pw_below_drewN | apply below_drew1 | refine below_set ?_ GE330.out) | exact HB.out)⟩
def R11_Verify.j0 : Nat → Int → List Int → Bool → Int → Int → Option (Bool)
 | 0,_,_,_,_,_=>none
 | k + 1,x0,x1,x29,x338000,x338001=>if x29=true then (some false) else ((R11_Point.f k x0 x338000 x338001).bind fun t339=>((R11_Hash.f k t339 x0 x1).bind fun t340=>(some (x338000 == t340))))
def R11_Verify.f (k : Nat) (a0 : Int) (l1 : List Int) (a2_0 : Int) (a2_1 : Int) : Option (Bool):=(R10_Valid.f k a0).bind fun t338=>(if t338=true then (if a2_0 < 0 then (R11_Verify.j0 k a0 l1 true a2_0 a2_1) else (if a2_0 ≥ 1073741789 then (R11_Verify.j0 k a0 l1 true a2_0 a2_1) else (if a2_1 < 0 then (R11_Verify.j0 k a0 l1 true a2_0 a2_1) else (R11_Verify.j0 k a0 l1 (decide (a2_1 ≥ 1073741789)) a2_0 a2_1)))) else (R11_Verify.j0 k a0 l1 true a2_0 a2_1))
theorem R11_Verify.mono_l : ∀ k,(∀ y0 y1 y2 y3 y4,LeO (R11_Verify.j0 k y0 y1 y2 y3 y4) (R11_Verify.j0 (k + 1) y0 y1 y2 y3 y4))
 | 0=>fun _ _ _ _ _ r h=>by simp [R11_Verify.j0] at h
 | k + 1=>by
  have ih0:=R11_Verify.mono_l k
  ·intro y0 y1 y2 y3 y4
   unfold R11_Verify.j0
   repeat' first
   | (with_reducible exact ih0 _ _ _ _ _)
   | (with_reducible exact R10_Valid.mono _ _)
   | (with_reducible exact R11_Hash.mono _ _ _ _)
   | (with_reducible exact R11_Point.mono _ _ _ _)
   | (with_reducible exact LeO.refl _)
   | (with_reducible exact LeO.none _)
   | (with_reducible refine LeO.ite ?_ ?_)
   | (with_reducible refine LeO.bind ?_ (fun _=>?_))
   | exact ih0 _ _ _ _ _
   | exact R10_Valid.mono _ _
   | exact R11_Hash.mono _ _ _ _
   | exact R11_Point.mono _ _ _ _
   | exact LeO.none _
   | refine LeO.ite ?_ ?_
   | refine LeO.bind ?_ (fun _=>?_)
theorem R11_Verify.mono : ∀ a0 a1 a2 a3 k,LeO (R11_Verify.f k a0 a1 a2 a3) (R11_Verify.f (k + 1) a0 a1 a2 a3):=by
 intro a0 a1 a2 a3 k
 have ih0:=R11_Verify.mono_l k
 unfold R11_Verify.f
 repeat' first
   | (with_reducible exact ih0 _ _ _ _ _)
   | (with_reducible exact R10_Valid.mono _ _)
   | (with_reducible exact R11_Hash.mono _ _ _ _)
   | (with_reducible exact R11_Point.mono _ _ _ _)
   | (with_reducible exact LeO.refl _)
   | (with_reducible exact LeO.none _)
   | (with_reducible refine LeO.ite ?_ ?_)
   | (with_reducible refine LeO.bind ?_ (fun _=>?_))
   | exact ih0 _ _ _ _ _
   | exact R10_Valid.mono _ _
   | exact R11_Hash.mono _ _ _ _
   | exact R11_Point.mono _ _ _ _
   | exact LeO.none _
   | refine LeO.ite ?_ ?_
   | refine LeO.bind ?_ (fun _=>?_)
def R11_Verify.T3 : Bool × List (List Nat × List Nat):=(true,[([],[]),([0],[0]),([],[]),([],[]),([2,3],[2,3]),([],[]),([],[]),([4,5,6,4],[4,5,6]),([1,7],[1,7]),([8,7,0,1,2,3,4,5,6,7,8],[8])])
def R11_Verify.B3 : List Nat:=[0,1,0,0,12,0,0,124,255,511]
theorem R11_Verify.tab3 : rtab .any (opsOf Tryd.f87 3)=R11_Verify.T3:=by kernel_rfl
theorem R11_Verify.bits3 : waitsOk R11_Verify.T3.2 R11_Verify.B3=true:=by kernel_rfl
set_option maxHeartbeats 8000000 in
set_option maxRecDepth 100000 in
theorem R11_Verify.calls (k : Nat) (a0 : Int) (A1 : Option Addr) (c1 : Nat) (l1 : List Int) (a2_0 : Int) (a2_1 : Int) (r : Bool) (w : World) (hr1 : Kd.C (Kd.int .u8) w A1 l1.length l1) (hc1 : l1.length ≤ c1) (h : R11_Verify.f k a0 l1 a2_0 a2_1=some r) :
  Calls Tryd.prog 87 #[.int .i64 a0,.slice A1 l1.length c1,.agg #[.int .i64 a2_0,.int .i64 a2_1]] w fun e w'=>e=.returned (.bool r) ∧ Below w.heap.size w w':=by
 have hu73:=Tryd.underlying73
 have HR1:=Aside0.mk hr1
 have HC1:=Aside0.mk hc1
 clear hr1 hc1
 have HB:=Aside0.mk (Below.refl w.heap.size w)
 have H : ((R10_Valid.f k a0).bind fun t338=>(if t338=true then (if a2_0 < 0 then (R11_Verify.j0 k a0 l1 true a2_0 a2_1) else (if a2_0 ≥ 1073741789 then (R11_Verify.j0 k a0 l1 true a2_0 a2_1) else (if a2_1 < 0 then (R11_Verify.j0 k a0 l1 true a2_0 a2_1) else (R11_Verify.j0 k a0 l1 (decide (a2_1 ≥ 1073741789)) a2_0 a2_1)))) else (R11_Verify.j0 k a0 l1 true a2_0 a2_1)))=some r:=h
 clear h
 have HC4:=Aside0.mk H
 clear H
 go_enter Tryd.func87,Tryd.ntmps87
 go_upto_region 1 with (first | ((with_reducible refine gate_dst (N:=5) rfl ?_);refine box_event ?hg (N:=5) ?hd (cs:=#[.int .i64 a2_0,.int .i64 a2_1]) (t:=73) ?hr ?_;(case hd=>rfl);(case hg=>rfl);(case hr=>first | (go_simp;done) | (go_simp;rfl));intro gb337 hg w5 hbox hb;have n0_:=Aside0.mk (below_step (by repeat (first | (with_reducible first | exact HB.out | apply below_alloc | apply pw_below_drewN | apply below_drew1) | exact HB.out)) hb);have n1_:=Aside0.mk (hbox);have n2_:=Aside0.mk ((by rw [hg];exact (below_size (by repeat (first | (with_reducible first | exact HB.out | apply below_alloc | apply pw_below_drewN | apply below_drew1) | exact HB.out))) : w.heap.size ≤ gb337));have n3_:=Aside0.mk ((by rw [hg];exact (below_size (by repeat (first | (with_reducible first | exact HB.out | apply below_alloc | apply pw_below_drewN | apply below_drew1) | exact HB.out))) : w.heap.size ≤ gb337));clear HB;have HB:=n0_;have BK337:=n1_;have GW337:=n2_;have GE337:=n3_;clear n0_ n1_ n2_ n3_;clear hb hbox hg))
 (try simp only [Act.put,pbigx10lsb,pbigx10lsz,pbigx10lss])
 go_cut [29] (fun v29 wc=>∃ (kq : Nat) (x29_3 : Bool),v29=.bool x29_3 ∧ Aside0 (R11_Verify.j0 kq a0 l1 x29_3 a2_0 a2_1=some r) ∧ Aside0 (kq ≤ k) ∧ Aside0 (wc.heap[gb337]?=some (.cells #[.int .i64 a2_0,.int .i64 a2_1] 73 (0,0))) ∧ Aside0 (Below w.heap.size w wc))
 case first =>
  have H:=HC4.out
  clear HC4
  replace H:=Option.bind_eq_some_iff.mp H
  obtain ⟨t338,A60,H⟩:=H
  replace H : (if t338=true then (if a2_0 < 0 then (R11_Verify.j0 k a0 l1 true a2_0 a2_1) else (if a2_0 ≥ 1073741789 then (R11_Verify.j0 k a0 l1 true a2_0 a2_1) else (if a2_1 < 0 then (R11_Verify.j0 k a0 l1 true a2_0 a2_1) else (R11_Verify.j0 k a0 l1 (decide (a2_1 ≥ 1073741789)) a2_0 a2_1)))) else (R11_Verify.j0 k a0 l1 true a2_0 a2_1))=some r:=H
  have A6:=Aside0.mk A60
  clear A60
  by_cases c7 : t338=true
  ·subst c7
   have H1 : (if a2_0 < 0 then (R11_Verify.j0 k a0 l1 true a2_0 a2_1) else (if a2_0 ≥ 1073741789 then (R11_Verify.j0 k a0 l1 true a2_0 a2_1) else (if a2_1 < 0 then (R11_Verify.j0 k a0 l1 true a2_0 a2_1) else (R11_Verify.j0 k a0 l1 (decide (a2_1 ≥ 1073741789)) a2_0 a2_1))))=some r:=by rw [if_pos rfl] at H;exact H
   clear H
   have H:=H1
   clear H1
   by_cases c8 : a2_0 < 0
   ·rw [if_pos c8] at H
    have c8b0 : decide (a2_0 < 0)=true:=decide_eq_true c8
    clear c8
    (first | rw [c8b0] | (simp only [i64_w,i32_w];rw [c8b0]) | skip)
    have H':=Aside0.mk H
    clear H
    go_wp2_with (first | ((with_reducible refine gate_callee (f:=55) rfl ?_);refine goesL_ (some 8) rfl rfl Tryd.func55 (by kernel_rfl) rfl #[.int .i64 a0] rfl (by (try simp only [List.map_toArray,List.map_cons,List.map_nil]);first | done | rfl | (simp only [List.length_drop,List.length_take];rfl)) ?_;(with_reducible refine (R10_Valid.calls k a0 true _ A6.out).mono ?_);rintro e w' ⟨rfl,⟨nd,rfl⟩⟩;refine ⟨_,rfl,?_⟩;have hcz9_0 : w5.cell? ⟨gb337,0,none⟩=some (.int .i64 a2_0):=(blk_cell BK337.out 0).trans rfl;have hcz9_1 : w5.cell? ⟨gb337,1,none⟩=some (.int .i64 a2_1):=(blk_cell BK337.out 1).trans rfl;have hfz9_0:=blk_frozen BK337.out 0;have hfz9_1:=blk_frozen BK337.out 1))
    go_meet
    case rel=>exact ⟨_,(true),(by first | rfl | (simp;done) | (simp [*];done)),H',⟨by first | omega | exact Nat.le_refl _⟩,⟨by (with_reducible repeat (first | refine blk_drewN ?_ _ | refine blk_drew ?_ | refine blk_alloc ?_ _));exact BK337.out⟩,⟨by repeat (first | (with_reducible first | exact HB.out | apply below_alloc | apply pw_below_drewN | apply below_drew1 | refine below_set ?_ GE337.out) | exact HB.out)⟩⟩
   ·rw [if_neg c8] at H
    have c8b0 : decide (a2_0 < 0)=false:=decide_eq_false c8
    clear c8
    (first | rw [c8b0] | (simp only [i64_w,i32_w];rw [c8b0]) | skip)
    by_cases c10 : a2_0 ≥ 1073741789
    ·rw [if_pos c10] at H
     have c10b0 : decide (1073741789 ≤ a2_0)=true:=decide_eq_true c10
     clear c10
     have H':=Aside0.mk H
     clear H
     go_wp2_with (first | ((with_reducible refine gate_callee (f:=55) rfl ?_);refine goesL_ (some 8) rfl rfl Tryd.func55 (by kernel_rfl) rfl #[.int .i64 a0] rfl (by (try simp only [List.map_toArray,List.map_cons,List.map_nil]);first | done | rfl | (simp only [List.length_drop,List.length_take];rfl)) ?_;(with_reducible refine (R10_Valid.calls k a0 true _ A6.out).mono ?_);rintro e w' ⟨rfl,⟨nd,rfl⟩⟩;refine ⟨_,rfl,?_⟩;have hcz11_0 : w5.cell? ⟨gb337,0,none⟩=some (.int .i64 a2_0):=(blk_cell BK337.out 0).trans rfl;have hcz11_1 : w5.cell? ⟨gb337,1,none⟩=some (.int .i64 a2_1):=(blk_cell BK337.out 1).trans rfl;have hfz11_0:=blk_frozen BK337.out 0;have hfz11_1:=blk_frozen BK337.out 1))
     go_meet
     case rel=>exact ⟨_,(true),(by first | rfl | (simp;done) | (simp [*];done)),H',⟨by first | omega | exact Nat.le_refl _⟩,⟨by (with_reducible repeat (first | refine blk_drewN ?_ _ | refine blk_drew ?_ | refine blk_alloc ?_ _));exact BK337.out⟩,⟨by repeat (first | (with_reducible first | exact HB.out | apply below_alloc | apply pw_below_drewN | apply below_drew1 | refine below_set ?_ GE337.out) | exact HB.out)⟩⟩
    ·rw [if_neg c10] at H
     have c10b0 : decide (1073741789 ≤ a2_0)=false:=decide_eq_false c10
     clear c10
     by_cases c12 : a2_1 < 0
     ·rw [if_pos c12] at H
      have c12b0 : decide (a2_1 < 0)=true:=decide_eq_true c12
      clear c12
      have H':=Aside0.mk H
      clear H
      go_wp2_with (first | ((with_reducible refine gate_callee (f:=55) rfl ?_);refine goesL_ (some 8) rfl rfl Tryd.func55 (by kernel_rfl) rfl #[.int .i64 a0] rfl (by (try simp only [List.map_toArray,List.map_cons,List.map_nil]);first | done | rfl | (simp only [List.length_drop,List.length_take];rfl)) ?_;(with_reducible refine (R10_Valid.calls k a0 true _ A6.out).mono ?_);rintro e w' ⟨rfl,⟨nd,rfl⟩⟩;refine ⟨_,rfl,?_⟩;have hcz13_0 : w5.cell? ⟨gb337,0,none⟩=some (.int .i64 a2_0):=(blk_cell BK337.out 0).trans rfl;have hcz13_1 : w5.cell? ⟨gb337,1,none⟩=some (.int .i64 a2_1):=(blk_cell BK337.out 1).trans rfl;have hfz13_0:=blk_frozen BK337.out 0;have hfz13_1:=blk_frozen BK337.out 1))
      go_meet
      case rel=>exact ⟨_,(true),(by first | rfl | (simp;done) | (simp [*];done)),H',⟨by first | omega | exact Nat.le_refl _⟩,⟨by (with_reducible repeat (first | refine blk_drewN ?_ _ | refine blk_drew ?_ | refine blk_alloc ?_ _));exact BK337.out⟩,⟨by repeat (first | (with_reducible first | exact HB.out | apply below_alloc | apply pw_below_drewN | apply below_drew1 | refine below_set ?_ GE337.out) | exact HB.out)⟩⟩
     ·rw [if_neg c12] at H
      have c12b0 : decide (a2_1 < 0)=false:=decide_eq_false c12
      clear c12
      have H':=Aside0.mk H
      clear H
      go_wp2_with (first | ((with_reducible refine gate_callee (f:=55) rfl ?_);refine goesL_ (some 8) rfl rfl Tryd.func55 (by kernel_rfl) rfl #[.int .i64 a0] rfl (by (try simp only [List.map_toArray,List.map_cons,List.map_nil]);first | done | rfl | (simp only [List.length_drop,List.length_take];rfl)) ?_;(with_reducible refine (R10_Valid.calls k a0 true _ A6.out).mono ?_);rintro e w' ⟨rfl,⟨nd,rfl⟩⟩;refine ⟨_,rfl,?_⟩;have hcz14_0 : w5.cell? ⟨gb337,0,none⟩=some (.int .i64 a2_0):=(blk_cell BK337.out 0).trans rfl;have hcz14_1 : w5.cell? ⟨gb337,1,none⟩=some (.int .i64 a2_1):=(blk_cell BK337.out 1).trans rfl;have hfz14_0:=blk_frozen BK337.out 0;have hfz14_1:=blk_frozen BK337.out 1))
      go_meet
      case rel=>exact ⟨_,(decide (a2_1 ≥ 1073741789)),(by first | rfl | (simp;done) | (simp [*];done)),H',⟨by first | omega | exact Nat.le_refl _⟩,⟨by (with_reducible repeat (first | refine blk_drewN ?_ _ | refine blk_drew ?_ | refine blk_alloc ?_ _));exact BK337.out⟩,⟨by repeat (first | (with_reducible first | exact HB.out | apply below_alloc | apply pw_below_drewN | apply below_drew1 | refine below_set ?_ GE337.out) | exact HB.out)⟩⟩
  ·replace c7:=Bool.eq_false_iff.mpr c7
   subst c7
   have H1 : (R11_Verify.j0 k a0 l1 true a2_0 a2_1)=some r:=by rw [if_neg (show ¬ (false=true) by decide)] at H;exact H
   clear H
   have H:=H1
   clear H1
   have H':=Aside0.mk H
   clear H
   go_wp2_with (first | ((with_reducible refine gate_callee (f:=55) rfl ?_);refine goesL_ (some 8) rfl rfl Tryd.func55 (by kernel_rfl) rfl #[.int .i64 a0] rfl (by (try simp only [List.map_toArray,List.map_cons,List.map_nil]);first | done | rfl | (simp only [List.length_drop,List.length_take];rfl)) ?_;(with_reducible refine (R10_Valid.calls k a0 false _ A6.out).mono ?_);rintro e w' ⟨rfl,⟨nd,rfl⟩⟩;refine ⟨_,rfl,?_⟩))
   go_meet
   case rel=>exact ⟨_,(true),(by first | rfl | (simp;done) | (simp [*];done)),H',⟨by first | omega | exact Nat.le_refl _⟩,⟨by (with_reducible repeat (first | refine blk_drewN ?_ _ | refine blk_drew ?_ | refine blk_alloc ?_ _));exact BK337.out⟩,⟨by repeat (first | (with_reducible first | exact HB.out | apply below_alloc | apply pw_below_drewN | apply below_drew1 | refine below_set ?_ GE337.out) | exact HB.out)⟩⟩
 case rest =>
  clear HC4
  try clear c1
  try clear p2
  try clear c5
  try clear c7
  try clear c8
  try clear c8b0
  try clear c10
  try clear c10b0
  try clear c12
  try clear c12b0
  try clear hcz11_0
  try clear hcz11_1
  try clear hcz13_0
  try clear hcz13_1
  try clear hcz14_0
  try clear hcz14_1
  try clear hcz9_0
  try clear hcz9_1
  try clear hfz11_0
  try clear hfz11_1
  try clear hfz13_0
  try clear hfz13_1
  try clear hfz14_0
  try clear hfz14_1
  try clear hfz9_0
  try clear hfz9_1
  obtain ⟨kq,x29_3,rfl,HA,HJ3,BK337,HB⟩:=hcut
  cases kq with
  | zero=>exact absurd HA.out (by simp [R11_Verify.j0])
  | succ kj3 =>
   have H:=HA.out
   clear HA
   simp only [R11_Verify.j0] at H
   by_cases c15 : x29_3=true
   ·subst c15
    have H1 : (some false)=some r:=by rw [if_pos rfl] at H;exact H
    clear H
    have H:=H1
    clear H1
    obtain rfl:=Option.some.inj H
    go_wp2
    go_ret
    exact ⟨by first | rfl | (simp [errW_none,errW_some] <;> rfl) | (simp [*,errW_none,errW_some] <;> rfl),by repeat (first | (with_reducible first | exact HB.out | apply below_alloc | apply pw_below_drewN | apply below_drew1 | refine below_set ?_ GE337.out) | exact HB.out)⟩
   ·replace c15:=Bool.eq_false_iff.mpr c15
    subst c15
    have H1 : ((R11_Point.f kj3 a0 a2_0 a2_1).bind fun t339=>((R11_Hash.f kj3 t339 a0 l1).bind fun t340=>(some (a2_0 == t340))))=some r:=by rw [if_neg (show ¬ (false=true) by decide)] at H;exact H
    clear H
    have H:=H1
    clear H1
    replace H:=Option.bind_eq_some_iff.mp H
    obtain ⟨t339,A160,H⟩:=H
    replace H : ((R11_Hash.f kj3 t339 a0 l1).bind fun t340=>(some (a2_0 == t340)))=some r:=H
    have A16:=Aside0.mk A160
    clear A160
    replace H:=Option.bind_eq_some_iff.mp H
    obtain ⟨t340,A170,H⟩:=H
    replace H : (some (a2_0 == t340))=some r:=H
    have A17:=Aside0.mk A170
    clear A170
    obtain rfl:=Option.some.inj H
    try go_wp2
    have n0_:=Aside0.mk (blk_drew BK337.out)
    have n1_:=Aside0.mk (below_drew1 HB.out)
    clear BK337
    clear HB
    have BK337:=n0_
    have HB:=n1_
    clear n0_ n1_
    refine start_ (n:=10) (S:=fun w'=>w'.cell? ⟨gb337,0,none⟩=some (.int .i64 a2_0) ∧ w'.cell? ⟨gb337,1,none⟩=some (.int .i64 a2_1)) (ds:=[]) #[false,false,false,false,false,false,false,false,false,false] (by kernel_rfl) rfl rfl ⟨(blk_cell BK337.out 0).trans rfl,(blk_cell BK337.out 1).trans rfl⟩ (fun hHeld=>?_);refine with_tabW R11_Verify.tab3 R11_Verify.bits3 (fun HT_ HW_=>?_)
    generalize wc.drew=w18 at BK337 HB hHeld ⊢
    refine pure_ (i:=0) (N:=some 30) (v:=?_) (a':=?_) #[true,false,false,false,false,false,false,false,false,false] rfl rfl (any_of HT_.out (by kernel_rfl)) (fun _ _ _ h=>h) (Or.inl ⟨by rfl,?_⟩) ?_ ?_
    rotate_left
    ·intro w'
     go_simp
     with_reducible rfl
    rotate_left
    ·simp only [Act.put,pbigx10lsb,pbigx10lsz,pbigx10lss,i64_w,i32_w]
     rfl
    refine pure_ (i:=2) (N:=some 32) (v:=?_) (a':=?_) #[true,false,true,false,false,false,false,false,false,false] rfl rfl (any_of HT_.out (by kernel_rfl)) (fun _ _ _ h=>h) (Or.inl ⟨by rfl,?_⟩) ?_ ?_
    rotate_left
    ·intro w'
     go_simp
     with_reducible rfl
    rotate_left
    ·simp only [Act.put,pbigx10lsb,pbigx10lsz,pbigx10lss,i64_w,i32_w]
     rfl
    refine pure_ (i:=5) (N:=some 35) (v:=?_) (a':=?_) #[true,false,true,false,false,true,false,false,false,false] rfl rfl (any_of HT_.out (by kernel_rfl)) (fun _ _ _ h=>h) (Or.inl ⟨by rfl,?_⟩) ?_ ?_
    rotate_left
    ·intro w'
     go_simp
     with_reducible rfl
    rotate_left
    ·simp only [Act.put,pbigx10lsb,pbigx10lsz,pbigx10lss,i64_w,i32_w]
     rfl
    refine pure_ (i:=6) (N:=some 36) (v:=?_) (a':=?_) #[true,false,true,false,false,true,true,false,false,false] rfl rfl (any_of HT_.out (by kernel_rfl)) (fun _ _ _ h=>h) (Or.inl ⟨by rfl,?_⟩) ?_ ?_
    rotate_left
    ·intro w'
     go_simp
     with_reducible rfl
    rotate_left
    ·simp only [Act.put,pbigx10lsb,pbigx10lsz,pbigx10lss,i64_w,i32_w]
     rfl
    refine take_ (i:=1) (N:=some 31) (v:=?_) (a':=?_) #[true,true,true,false,false,true,true,false,false,false] rfl rfl (take_ofW HT_.out HW_.out (by kernel_rfl)) (fun _ _ _ h=>h) (Or.inl ⟨by rfl,?_⟩) hHeld ?_ ?_
    rotate_left
    ·rintro w' ⟨s0,s1⟩
     go_simp
     with_reducible rfl
    rotate_left
    ·simp only [Act.put,pbigx10lsb,pbigx10lsz,pbigx10lss,i64_w,i32_w]
     rfl
    refine take_ (i:=3) (N:=some 33) (v:=?_) (a':=?_) #[true,true,true,true,false,true,true,false,false,false] rfl rfl (take_ofW HT_.out HW_.out (by kernel_rfl)) (fun _ _ _ h=>h) (Or.inl ⟨by rfl,?_⟩) hHeld ?_ ?_
    rotate_left
    ·rintro w' ⟨s0,s1⟩
     go_simp
     with_reducible rfl
    rotate_left
    ·simp only [Act.put,pbigx10lsb,pbigx10lsz,pbigx10lss,i64_w,i32_w]
     rfl
    refine one_ (i:=4) (N:=some 34) #[true,true,true,true,true,true,true,false,false,false] rfl rfl (one_of HT_.out (by kernel_rfl)) (by decide) (fun K hK=>?_)
    refine goes_ Tryd.func119 (by kernel_rfl) rfl #[.int .i64 a0,.agg #[.int .i64 a2_0,.int .i64 a2_1]] (by rfl) rfl rfl (by (try simp only [List.map_toArray,List.map_cons,List.map_nil]);first | done | rfl | (simp only [List.length_drop,List.length_take];rfl)) ?_
    with_reducible refine (R11_Point.calls kj3 a0 a2_0 a2_1 t339 _ A16.out).mono ?_
    rintro e w19 ⟨rfl,hb⟩
    refine ⟨_,rfl,?_⟩
    have n0_:=Aside0.mk (blk_below (g:=gb337) (o:=.cells #[.int .i64 a2_0,.int .i64 a2_1] 73 (0,0)) (by (with_reducible repeat (first | refine blk_drewN ?_ _ | refine blk_drew ?_ | refine blk_alloc ?_ _));exact BK337.out) hb)
    have n1_:=Aside0.mk (below_step (by repeat (first | (with_reducible first | exact HB.out | apply below_alloc | apply pw_below_drewN | apply below_drew1 | refine below_set ?_ GE337.out) | exact HB.out)) hb)
    clear BK337
    clear HB
    have BK337:=n0_
    have HB:=n1_
    clear n0_ n1_
    (try clear hb)
    (try clear hb2)
    (try clear hk)
    (try clear hi)
    refine hK.out _ _ ⟨(blk_cell BK337.out 0).trans rfl,(blk_cell BK337.out 1).trans rfl⟩ (fun hHeld=>?_)
    clear hK K
    refine norm_ (a':=?_) ?_ ?_
    rotate_left
    ·show Act.put _ (some 34) _=_
     simp only [Act.put,pbigx10lsb,pbigx10lsz,pbigx10lss,i64_w,i32_w]
     rfl
    refine one_ (i:=7) (N:=some 37) #[true,true,true,true,true,true,true,true,false,false] rfl rfl (one_of HT_.out (by kernel_rfl)) (by decide) (fun K hK=>?_)
    refine goes_ Tryd.func118 (by kernel_rfl) rfl #[.int .i64 t339,.int .i64 a0,.slice A1 l1.length c1] (by rfl) rfl rfl (by (try simp only [List.map_toArray,List.map_cons,List.map_nil]);first | done | rfl | (simp only [List.length_drop,List.length_take];rfl)) ?_
    with_reducible refine (R11_Hash.calls kj3 t339 a0 _ _ l1 t340 _ ?side1 ?side2 A17.out).mono ?_
    (case side1=>repeat (first | exact (Kd.C_below HR1.out HB.out) | (with_reducible refine Kd.C_alloc ?_ _) | (with_reducible refine Kd.C_drewN ?_ _) | (with_reducible refine Kd.C_drew ?_)))
    (case side2=>exact HC1.out)
    rintro e w20 ⟨rfl,hb⟩
    refine ⟨_,rfl,?_⟩
    have n0_:=Aside0.mk (blk_below (g:=gb337) (o:=.cells #[.int .i64 a2_0,.int .i64 a2_1] 73 (0,0)) (by (with_reducible repeat (first | refine blk_drewN ?_ _ | refine blk_drew ?_ | refine blk_alloc ?_ _));exact BK337.out) hb)
    have n1_:=Aside0.mk (below_step (by repeat (first | (with_reducible first | exact HB.out | apply below_alloc | apply pw_below_drewN | apply below_drew1 | refine below_set ?_ GE337.out) | exact HB.out)) hb)
    clear BK337
    clear HB
    have BK337:=n0_
    have HB:=n1_
    clear n0_ n1_
    (try clear hb)
    (try clear hb2)
    (try clear hk)
    (try clear hi)
    refine hK.out _ _ ⟨(blk_cell BK337.out 0).trans rfl,(blk_cell BK337.out 1).trans rfl⟩ (fun hHeld=>?_)
    clear hK K
    refine norm_ (a':=?_) ?_ ?_
    rotate_left
    ·show Act.put _ (some 37) _=_
     simp only [Act.put,pbigx10lsb,pbigx10lsz,pbigx10lss,i64_w,i32_w]
     rfl
    refine pure_ (i:=8) (N:=some 38) (v:=?_) (a':=?_) #[true,true,true,true,true,true,true,true,true,false] rfl rfl (any_of HT_.out (by kernel_rfl)) (fun _ _ _ h=>h) (Or.inl ⟨by rfl,?_⟩) ?_ ?_
    rotate_left
    ·intro w'
     go_simp
     with_reducible rfl
    rotate_left
    ·simp only [Act.put,pbigx10lsb,pbigx10lsz,pbigx10lss,i64_w,i32_w]
     rfl
    refine pure_ (i:=9) (N:=some 6) (v:=?_) (a':=?_) #[true,true,true,true,true,true,true,true,true,true] rfl rfl (any_of HT_.out (by kernel_rfl)) (fun _ _ _ h=>h) (Or.inl ⟨by rfl,?_⟩) ?_ ?_
    rotate_left
    ·intro w'
     go_simp
     with_reducible rfl
    rotate_left
    ·simp only [Act.put,pbigx10lsb,pbigx10lsz,pbigx10lss,i64_w,i32_w]
     rfl
    refine done_ (done_of HT_.out (by kernel_rfl)) ?_
    try go_wp2
    go_ret
    exact ⟨by first | rfl | (simp [errW_none,errW_some] <;> rfl) | (simp [*,errW_none,errW_some] <;> rfl),by repeat (first | (with_reducible first | exact HB.out | apply below_alloc | apply pw_below_drewN | apply below_drew1 | refine below_set ?_ GE337.out) | exact HB.out)⟩
end Go.Proofs.YtjbcfdgnafmbkaaDoor.PBig
end
