/- Lemmas, walks and printed functions for the claim. -/
import Derived.Test.YtjbcfdgnafmbkaaDoorSDCur2
import Derived.Test.YtjbcfdgnafmbkaaDoorSDCur16
import Derived.Test.YtjbcfdgnafmbkaaDoorSDCur19
import Derived.Test.YtjbcfdgnafmbkaaDoorSDCur21
import Derived.Test.YtjbcfdgnafmbkaaDoorSDCur22
import Derived.Test.YtjbcfdgnafmbkaaDoorSDCur23
import Derived.Lib.SlBytesConst
section
set_option linter.unusedVariables false
namespace Go.Proofs.YtjbcfdgnafmbkaaDoor.Dev
open Go.RowKit Go.Proofs.YtjbcfdgnafmbkaaDoor Go.Proofs.YtjbcfdgnafmbkaaDoorW.PrintWords Go.Proofs.YtjbcfdgnafmbkaaDoor.PBig
theorem lit_C {α : Type} (d : Kd α) (W : World) (e : TypeId) (fr : Nat × Nat) (xs : List α) (inner : List Value) (hm : xs.length ≤ 1000) (hl : inner.length=xs.length * d.sz) (hr : ∀ W' j p,xs[j]?=some p → d.K W' p ((inner.drop (j * d.sz)).take d.sz)) :
    d.C (W.alloc (.cells inner.toArray e fr)) (some ⟨W.heap.size,0,none⟩) xs.length xs:=by
  refine ⟨rfl,by omega,fun _=>⟨_,rfl,fun j p hj=>⟨(inner.drop (j * d.sz)).take d.sz,?_,hr _ j p hj,fun i u hu=>?_⟩⟩⟩
  · have hjl:=(List.getElem?_eq_some_iff.1 hj).1
    have : j * d.sz + d.sz ≤ inner.length:=by rw [hl,← Nat.succ_mul];exact Nat.mul_le_mul_right _ hjl
    rw [List.length_take,List.length_drop];omega
  · rw [add_plain,cell_of_row _ W.heap.size _ inner.toArray e fr (blk_new W _)]
    rw [List.getElem?_take,List.getElem?_drop] at hu
    split at hu
    · simpa using hu
    · cases hu
theorem two_C (W : World) : Kd.C k65 (W.alloc (.cells #[.int .i64 3,.int .i64 10,.int .i64 0,.int .i64 0,.int .i64 4,.bool false,.int .i64 4,.int .i64 20,.int .i64 0,.int .i64 0,.int .i64 16,.bool false] 65)) (some ⟨W.heap.size,0,none⟩) 2 two :=
  lit_C k65 W 65 (0,0) two _ (by decide) rfl (fun W' j p hj=>by
    match j,hj with
    | 0,hj=>cases hj;exact k65_mk W' _
    | 1,hj=>cases hj;exact k65_mk W' _)
theorem one_C (W : World) : Kd.C k65 (W.alloc (.cells #[.int .i64 0,.int .i64 0,.int .i64 0,.int .i64 0,.int .i64 1,.bool false] 65)) (some ⟨W.heap.size,0,none⟩) 1 [⟨0,0,0,0,1,false⟩] :=
  lit_C k65 W 65 (0,0) [⟨0,0,0,0,1,false⟩] _ (by decide) rfl (fun W' j p hj=>by
    match j,hj with
    | 0,hj=>cases hj;exact k65_mk W' _)
theorem pair_C (W : World) : Kd.C k65 (W.alloc (.cells #[.int .i64 0,.int .i64 0,.int .i64 0,.int .i64 0,.int .i64 4,.bool false,.int .i64 1,.int .i64 0,.int .i64 0,.int .i64 1,.int .i64 4,.bool false] 65)) (some ⟨W.heap.size,0,none⟩) 2 [⟨0,0,0,0,4,false⟩,⟨1,0,0,1,4,false⟩] :=
  lit_C k65 W 65 (0,0) [⟨0,0,0,0,4,false⟩,⟨1,0,0,1,4,false⟩] _ (by decide) rfl (fun W' j p hj=>by
    match j,hj with
    | 0,hj=>cases hj;exact k65_mk W' _
    | 1,hj=>cases hj;exact k65_mk W' _)
theorem txt_C (W : World) (fr : Nat × Nat) : Kd.C (Kd.int .u8) (W.alloc (.cells #[.int .u8 116,.int .u8 101,.int .u8 120,.int .u8 116] 5 fr)) (some ⟨W.heap.size,0,none⟩) 4 txt :=
  lit_C (Kd.int .u8) W 5 fr txt [.int .u8 116,.int .u8 101,.int .u8 120,.int .u8 116] (by decide) rfl (fun W' j p hj=>by
    match j,hj with
    | 0,hj=>cases hj;exact rfl
    | 1,hj=>cases hj;exact rfl
    | 2,hj=>cases hj;exact rfl
    | 3,hj=>cases hj;exact rfl)
theorem ab_C (W : World) (a b : Int) : Kd.C (Kd.int .i64) (W.alloc (.cells #[.int .i64 a,.int .i64 b] 3)) (some ⟨W.heap.size,0,none⟩) 2 [a,b] :=
  lit_C (Kd.int .i64) W 3 (0,0) [a,b] [.int .i64 a,.int .i64 b] (by simp) rfl (fun W' j p hj=>by
    match j,hj with
    | 0,hj=>cases hj;exact rfl
    | 1,hj=>cases hj;exact rfl)
theorem s_add {l : List S65} {c : Nat} (A : Option Addr) (W : World) (x : S65) (r : List S65) (n : Int) (hC : Kd.C k65 W A l.length l) (hc : l.length ≤ c) (h : devices_Add.f l x.f0 x.f1 x.f2 x.f3 x.f4 x.f5=some (r,n)) :
    Calls Tryd.prog 42 #[.slice A l.length c,argD x] W fun e w'=>∃ A' c',e=.returned (.tuple #[.slice A' r.length c',.int .i64 n]) ∧ r.length ≤ c' ∧ Kd.C k65 w' A' r.length r ∧ Below W.heap.size W w' :=
  (devices_Add.calls A c l x.f0 x.f1 x.f2 x.f3 x.f4 x.f5 r n W hC hc h).mono fun e w' ⟨v,e1,hR,hb⟩=>by
    obtain ⟨A',c',rfl,h1,h2⟩:=Kd.R_reads hR
    exact ⟨A',c',e1,h1,h2,hb⟩
theorem s_add1 (A : Option Addr) (W : World) (hC : Kd.C k65 W A 2 two) : Calls Tryd.prog 42 #[.slice A 2 2,.agg #[.int .i64 9,.int .i64 30,.int .i64 0,.int .i64 0,.int .i64 0,.bool true]] W fun e w'=>∃ A' c',e=.returned (.tuple #[.slice A' 3 c',.int .i64 0]) ∧ 3 ≤ c' ∧ Kd.C k65 w' A' 3 lost ∧ Below W.heap.size W w' :=
  s_add (l:=two) (c:=2) A W ⟨9,30,0,0,0,true⟩ lost 0 hC (by decide) add1
theorem s_add2 (A : Option Addr) (W : World) (hC : Kd.C k65 W A 2 two) : Calls Tryd.prog 42 #[.slice A 2 2,.agg #[.int .i64 5,.int .i64 0,.int .i64 0,.int .i64 0,.int .i64 4,.bool false]] W fun e w'=>∃ v,e=.returned (.tuple #[v,.int .i64 151]) ∧ Below W.heap.size W w' :=
  (s_add (l:=two) (c:=2) A W ⟨5,0,0,0,4,false⟩ [] 151 hC (by decide) add2).mono fun e w' ⟨_,_,e1,_,_,hb⟩=>⟨_,e1,hb⟩
theorem s_add3 (A : Option Addr) (W : World) (hC : Kd.C k65 W A 2 two) : Calls Tryd.prog 42 #[.slice A 2 2,.agg #[.int .i64 3,.int .i64 0,.int .i64 0,.int .i64 0,.int .i64 64,.bool false]] W fun e w'=>∃ v,e=.returned (.tuple #[v,.int .i64 151]) ∧ Below W.heap.size W w' :=
  (s_add (l:=two) (c:=2) A W ⟨3,0,0,0,64,false⟩ [] 151 hC (by decide) add3).mono fun e w' ⟨_,_,e1,_,_,hb⟩=>⟨_,e1,hb⟩
theorem s_add4 (A : Option Addr) (W : World) (hC : Kd.C k65 W A 2 two) : Calls Tryd.prog 42 #[.slice A 2 2,.agg #[.int .i64 5,.int .i64 0,.int .i64 0,.int .i64 0,.int .i64 1,.bool false]] W fun e w'=>∃ v,e=.returned (.tuple #[v,.int .i64 480]) ∧ Below W.heap.size W w' :=
  (s_add (l:=two) (c:=2) A W ⟨5,0,0,0,1,false⟩ [] 480 hC (by decide) add4).mono fun e w' ⟨_,_,e1,_,_,hb⟩=>⟨_,e1,hb⟩
theorem s_cur (W : World) : Calls Tryd.prog 47 #[.slice none 0 0,.int .i64 64,.int .i64 0,.int .i64 0] W fun e w'=>e=.returned (.tuple #[.int .i64 0,.int .i64 0,.bool false,.int .i64 1]) ∧ Below W.heap.size W w' :=
  devices_Current.calls none 0 [] 64 0 0 0 0 false 1 W (Kd.C_nil _ _) (Nat.le_refl _) cur1
theorem s_sign (A : Option Addr) (W : World) (hLd : Sha.Laid W) (hC : Kd.C (Kd.int .u8) W A 4 txt) : Calls Tryd.prog 54 #[.int .i64 2,.slice A 4 4] W fun e w'=>e=.returned (.tuple #[.agg #[.int .i64 (Cod.sgE 2 txt),.int .i64 (Cod.sgS 2 txt)],.int .i64 0]) ∧ Below W.heap.size W w' :=
  sign_Sign.calls 2 A 4 txt _ _ _ W hLd hC (by decide) sgn
theorem cur_two20 : devices_current.v two 0 20 0=(⟨4,20,0,0,16,false⟩,true,0):=by
  rw [curv_ok chk_two (by decide)]
  simp [cur,two,bestD,stepD,selB]
theorem cur_two19 : devices_current.v two 0 19 0=(⟨3,10,0,0,4,false⟩,true,0):=by
  rw [curv_ok chk_two (by decide)]
  simp [cur,two,bestD,stepD,selB]
theorem cur_two9 : devices_current.v two 0 9 0=(z65,false,0):=by
  rw [curv_ok chk_two (by decide)]
  simp [cur,two,bestD,selB]
theorem cur_nil0 : devices_current.v [] 0 0 0=(z65,false,0):=by
  rw [curv_ok chk_nil (by decide)]
  simp [cur,bestD]
theorem cur_lost29 : devices_current.v lost 0 29 0=(⟨4,20,0,0,16,false⟩,true,0):=by
  rw [curv_ok chk_lost (by decide)]
  simp [cur,lost,bestD,stepD,selB]
theorem cur_lost30 : devices_current.v lost 0 30 0=(⟨9,30,0,0,0,true⟩,false,0):=by
  rw [curv_ok chk_lost (by decide)]
  simp [cur,lost,bestD,stepD,selB]
theorem acc20 : devices_Accepts.f two 0 txt (Cod.sgE 2 txt) (Cod.sgS 2 txt) 20 0=some (4,true,0):=by
  have h:=verify_sign 2 txt (by decide) (by decide)
  rw [pow_42] at h
  rw [acc_f _ _ _ _ _ _ _ (by simp [txt]),cur_two20,if_pos ⟨rfl,rfl,h⟩]
theorem acc9 : devices_Accepts.f two 0 txt (Cod.sgE 2 txt) (Cod.sgS 2 txt) 9 0=some (0,false,0):=by
  rw [acc_f _ _ _ _ _ _ _ (by simp [txt]),cur_two9,if_neg (fun h=>by cases h.2.1)]
theorem s_acc20 (A A2 : Option Addr) (W : World) (hLd : Sha.Laid W) (hC : Kd.C k65 W A 2 two) (hC2 : Kd.C (Kd.int .u8) W A2 4 txt) : Calls Tryd.prog 49 #[.slice A 2 2,.int .i64 0,.slice A2 4 4,.agg #[.int .i64 (Cod.sgE 2 txt),.int .i64 (Cod.sgS 2 txt)],.int .i64 20,.int .i64 0] W fun e w'=>e=.returned (.tuple #[.int .i64 4,.bool true,.int .i64 0]) ∧ Below W.heap.size W w' :=
  devices_Accepts.calls A 2 two 0 A2 4 txt _ _ 20 0 _ _ _ W hLd hC (by decide) hC2 (by decide) acc20
theorem s_acc9 (A A2 : Option Addr) (W : World) (hLd : Sha.Laid W) (hC : Kd.C k65 W A 2 two) (hC2 : Kd.C (Kd.int .u8) W A2 4 txt) : Calls Tryd.prog 49 #[.slice A 2 2,.int .i64 0,.slice A2 4 4,.agg #[.int .i64 (Cod.sgE 2 txt),.int .i64 (Cod.sgS 2 txt)],.int .i64 9,.int .i64 0] W fun e w'=>e=.returned (.tuple #[.int .i64 0,.bool false,.int .i64 0]) ∧ Below W.heap.size W w' :=
  devices_Accepts.calls A 2 two 0 A2 4 txt _ _ 9 0 _ _ _ W hLd hC (by decide) hC2 (by decide) acc9
theorem is_none {l : List S65} {t : Int} (h1 : (devices_current.v l 0 t 0).2.1=false) (h2 : (devices_current.v l 0 t 0).2.2=0) : L48_is.f l t []=some true:=by
  unfold L48_is.f
  rw [cur_f,h1,h2]
  simp
theorem is_some {l : List S65} {t a b : Int} (h1 : (devices_current.v l 0 t 0).2.1=true) (h2 : (devices_current.v l 0 t 0).2.2=0) (h3 : (devices_current.v l 0 t 0).1.f0=a) (h4 : (devices_current.v l 0 t 0).1.f4=b) : L48_is.f l t [a,b]=some true:=by
  unfold L48_is.f
  rw [cur_f,h1,h2,h3,h4]
  simp [rd]
theorem s_is0 (W : World) : Calls Tryd.prog 73 #[.slice none 0 0,.int .i64 0,.slice none 0 0] W fun e w'=>e=.returned (.bool true) ∧ Below W.heap.size W w' :=
  L48_is.calls none 0 [] 0 none 0 [] true W (Kd.C_nil _ _) (Nat.le_refl _) (Kd.C_nil _ _) (Nat.le_refl _) (is_none (by rw [cur_nil0]) (by rw [cur_nil0]))
theorem s_is9 (A : Option Addr) (W : World) (hC : Kd.C k65 W A 2 two) : Calls Tryd.prog 73 #[.slice A 2 2,.int .i64 9,.slice none 0 0] W fun e w'=>e=.returned (.bool true) ∧ Below W.heap.size W w' :=
  L48_is.calls A 2 two 9 none 0 [] true W hC (by decide) (Kd.C_nil _ _) (Nat.le_refl _) (is_none (by rw [cur_two9]) (by rw [cur_two9]))
theorem s_is19 (A A2 : Option Addr) (W : World) (hC : Kd.C k65 W A 2 two) (hC2 : Kd.C (Kd.int .i64) W A2 2 [3,4]) : Calls Tryd.prog 73 #[.slice A 2 2,.int .i64 19,.slice A2 2 2] W fun e w'=>e=.returned (.bool true) ∧ Below W.heap.size W w' :=
  L48_is.calls A 2 two 19 A2 2 [3,4] true W hC (by decide) hC2 (by decide) (is_some (by rw [cur_two19]) (by rw [cur_two19]) (by rw [cur_two19]) (by rw [cur_two19]))
theorem s_is20 (A A2 : Option Addr) (W : World) (hC : Kd.C k65 W A 2 two) (hC2 : Kd.C (Kd.int .i64) W A2 2 [4,16]) : Calls Tryd.prog 73 #[.slice A 2 2,.int .i64 20,.slice A2 2 2] W fun e w'=>e=.returned (.bool true) ∧ Below W.heap.size W w' :=
  L48_is.calls A 2 two 20 A2 2 [4,16] true W hC (by decide) hC2 (by decide) (is_some (by rw [cur_two20]) (by rw [cur_two20]) (by rw [cur_two20]) (by rw [cur_two20]))
theorem s_is29 (A A2 : Option Addr) (c : Nat) (W : World) (hC : Kd.C k65 W A 3 lost) (hc : 3 ≤ c) (hC2 : Kd.C (Kd.int .i64) W A2 2 [4,16]) : Calls Tryd.prog 73 #[.slice A 3 c,.int .i64 29,.slice A2 2 2] W fun e w'=>e=.returned (.bool true) ∧ Below W.heap.size W w' :=
  L48_is.calls A c lost 29 A2 2 [4,16] true W hC hc hC2 (by decide) (is_some (by rw [cur_lost29]) (by rw [cur_lost29]) (by rw [cur_lost29]) (by rw [cur_lost29]))
theorem s_is30 (A : Option Addr) (c : Nat) (W : World) (hC : Kd.C k65 W A 3 lost) (hc : 3 ≤ c) : Calls Tryd.prog 73 #[.slice A 3 c,.int .i64 30,.slice none 0 0] W fun e w'=>e=.returned (.bool true) ∧ Below W.heap.size W w' :=
  L48_is.calls A c lost 30 none 0 [] true W hC hc (Kd.C_nil _ _) (Nat.le_refl _) (is_none (by rw [cur_lost30]) (by rw [cur_lost30]))
theorem s_chk0 (A : Option Addr) (W : World) (hC : Kd.C k65 W A 2 two) : Calls Tryd.prog 44 #[.slice A 2 2] W fun e w'=>e=.returned (.int .i64 0) ∧ Below W.heap.size W w':=by
  have:=check_c two A 2 W hC
  rw [chk_two] at this
  exact this
theorem s_chk1 (A : Option Addr) (W : World) (hC : Kd.C k65 W A 1 [⟨0,0,0,0,1,false⟩]) : Calls Tryd.prog 44 #[.slice A 1 1] W fun e w'=>e=.returned (.int .i64 480) ∧ Below W.heap.size W w':=by
  have:=check_c [⟨0,0,0,0,1,false⟩] A 1 W hC
  rw [show chk [⟨0,0,0,0,1,false⟩]=480 by simp [chk,chkG,rightD]] at this
  exact this
theorem s_chk2 (A : Option Addr) (W : World) (hC : Kd.C k65 W A 2 [⟨0,0,0,0,4,false⟩,⟨1,0,0,1,4,false⟩]) : Calls Tryd.prog 44 #[.slice A 2 2] W fun e w'=>e=.returned (.int .i64 480) ∧ Below W.heap.size W w':=by
  have:=check_c [⟨0,0,0,0,4,false⟩,⟨1,0,0,1,4,false⟩] A 2 W hC
  rw [show chk [⟨0,0,0,0,4,false⟩,⟨1,0,0,1,4,false⟩]=480 by simp [chk,chkG,rightD,inB,v4,usedB]] at this
  exact this
theorem below_two {W w1 : World} {A : Option Addr} (h : Kd.C k65 W A 2 two) (hb : Below W.heap.size W w1) : Kd.C k65 w1 A 2 two:=Kd.C_below h hb
set_option maxHeartbeats 4000000 in
set_option maxRecDepth 100000 in
theorem sane_walk (w : World) (hLd : Sha.Laid w) : Calls Tryd.prog 40 #[] w fun e w'=>e=.returned (.bool true) ∧ Below w.heap.size w w':=by
  have HL:=Lib.hid hLd
  have HS:=Lib.hid s_sign
  have HA20:=Lib.hid s_acc20
  have HA9:=Lib.hid s_acc9
  generalize Cod.sgE 2 txt=E at HS HA20 HA9
  generalize Cod.sgS 2 txt=S at HS HA20 HA9
  clear hLd
  have kc:=fun (w : World) (C : Array Value) (n c : Nat)=>Lib.run_convert_bytes_const (P:=Tryd.prog) w 22 5 C n c Tryd.underlying22 Tryd.underlying5
  go_enter Tryd.func40,Tryd.ntmps40
  go_wp2_with fail
  refine (s_add1 _ _ (two_C w)).mono ?_
  rintro e w1 ⟨A3,c3,rfl,hc3,hC3,hb⟩
  have HC:=Lib.hid (below_two (two_C w) hb)
  have HC3:=Lib.hid hC3
  have Hc3:=Lib.hid hc3
  have HB:=Lib.hid (below_step (below_alloc (Below.refl _ w) _) hb)
  clear hb hC3 hc3
  go_wp2_with fail
  refine (s_add2 _ _ HC.out).mono ?_
  rintro e w2 ⟨v5,rfl,hb⟩
  replace HC:=Lib.hid (below_two HC.out hb)
  replace HC3:=Lib.hid (Kd.C_below HC3.out hb)
  replace HB:=Lib.hid (below_step HB.out hb)
  clear hb
  go_wp2_with fail
  refine (s_add3 _ _ HC.out).mono ?_
  rintro e w3 ⟨v7,rfl,hb⟩
  replace HC:=Lib.hid (below_two HC.out hb)
  replace HC3:=Lib.hid (Kd.C_below HC3.out hb)
  replace HB:=Lib.hid (below_step HB.out hb)
  clear hb
  go_wp2_with fail
  refine (s_add4 _ _ HC.out).mono ?_
  rintro e w4 ⟨v9,rfl,hb⟩
  replace HC:=Lib.hid (below_two HC.out hb)
  replace HC3:=Lib.hid (Kd.C_below HC3.out hb)
  replace HB:=Lib.hid (below_step HB.out hb)
  clear hb
  go_wp2_with fail
  refine (s_cur _).mono ?_
  rintro e w5 ⟨rfl,hb⟩
  replace HC:=Lib.hid (below_two HC.out hb)
  replace HC3:=Lib.hid (Kd.C_below HC3.out hb)
  replace HB:=Lib.hid (below_step HB.out hb)
  clear hb
  go_wp2_with fail
  refine (HS.out _ _ (Cod.Laid.below HL.out (below_alloc HB.out _)) (txt_C w5 _)).mono ?_
  rintro e w6 ⟨rfl,hb⟩
  replace HC:=Lib.hid (below_two (Kd.C_alloc HC.out _) hb)
  replace HC3:=Lib.hid (Kd.C_below (Kd.C_alloc HC3.out _) hb)
  replace HB:=Lib.hid (below_step (below_alloc HB.out _) hb)
  clear hb HS
  have kc6:=fun (C : Array Value) (n c : Nat)=>Lib.run_convert_bytes_const (P:=Tryd.prog) (w6.alloc (.cells #[.int .i64 E,.int .i64 S] 73)) 22 5 C n c Tryd.underlying22 Tryd.underlying5
  have hC6:=txt_C (w6.alloc (.cells #[.int .i64 E,.int .i64 S] 73)) (4,4 + 1)
  rw [World.size_alloc] at kc6 hC6
  have HC6:=Lib.hid hC6
  have BK6:=Lib.hid (blk_alloc (blk_new w6 (.cells #[.int .i64 E,.int .i64 S] 73)) (.cells #[.int .u8 116,.int .u8 101,.int .u8 120,.int .u8 116] 5 (4,4 + 1)))
  clear hC6
  go_wp2_with fail
  refine (HA20.out _ _ _ (Cod.Laid.below HL.out (below_alloc (below_alloc HB.out _) _)) (Kd.C_alloc (Kd.C_alloc HC.out _) _) HC6.out).mono ?_
  rintro e w7 ⟨rfl,hb⟩
  replace HC:=Lib.hid (below_two (Kd.C_alloc (Kd.C_alloc HC.out _) _) hb)
  replace HC3:=Lib.hid (Kd.C_below (Kd.C_alloc (Kd.C_alloc HC3.out _) _) hb)
  replace HB:=Lib.hid (below_step (below_alloc (below_alloc HB.out _) _) hb)
  have BK7:=Lib.hid (blk_below BK6.out hb)
  have q0 : w7.cell? ⟨w6.heap.size,0,none⟩=some (.int .i64 E):=(blk_cell BK7.out 0).trans rfl
  have q1 : w7.cell? ⟨w6.heap.size,1,none⟩=some (.int .i64 S):=(blk_cell BK7.out 1).trans rfl
  have hlt : w6.heap.size < w7.heap.size:=blk_lt BK7.out
  have hne : ¬ w6.heap.size=w7.heap.size:=by omega
  clear hb HA20 kc6 HC6 BK6
  go_wp2_with fail
  refine (HA9.out _ _ _ (Cod.Laid.below HL.out (below_alloc HB.out _)) (Kd.C_alloc HC.out _) (txt_C w7 _)).mono ?_
  rintro e w8 ⟨rfl,hb⟩
  replace HC:=Lib.hid (below_two (Kd.C_alloc HC.out _) hb)
  replace HC3:=Lib.hid (Kd.C_below (Kd.C_alloc HC3.out _) hb)
  replace HB:=Lib.hid (below_step (below_alloc HB.out _) hb)
  clear hb HA9 q0 q1 hlt hne BK7
  go_wp2_with fail
  refine (s_is0 _).mono ?_
  rintro e w9 ⟨rfl,hb⟩
  replace HC:=Lib.hid (below_two HC.out hb)
  replace HC3:=Lib.hid (Kd.C_below HC3.out hb)
  replace HB:=Lib.hid (below_step HB.out hb)
  clear hb
  go_wp2_with fail
  refine (s_is9 _ _ HC.out).mono ?_
  rintro e w10 ⟨rfl,hb⟩
  replace HC:=Lib.hid (below_two HC.out hb)
  replace HC3:=Lib.hid (Kd.C_below HC3.out hb)
  replace HB:=Lib.hid (below_step HB.out hb)
  clear hb
  go_wp2_with fail
  refine (s_is19 _ _ _ (Kd.C_alloc HC.out _) (ab_C w10 3 4)).mono ?_
  rintro e w11 ⟨rfl,hb⟩
  replace HC:=Lib.hid (below_two (Kd.C_alloc HC.out _) hb)
  replace HC3:=Lib.hid (Kd.C_below (Kd.C_alloc HC3.out _) hb)
  replace HB:=Lib.hid (below_step (below_alloc HB.out _) hb)
  clear hb
  go_wp2_with fail
  refine (s_is20 _ _ _ (Kd.C_alloc HC.out _) (ab_C w11 4 16)).mono ?_
  rintro e w12 ⟨rfl,hb⟩
  replace HC:=Lib.hid (below_two (Kd.C_alloc HC.out _) hb)
  replace HC3:=Lib.hid (Kd.C_below (Kd.C_alloc HC3.out _) hb)
  replace HB:=Lib.hid (below_step (below_alloc HB.out _) hb)
  clear hb
  go_wp2_with fail
  refine (s_is29 _ _ _ _ (Kd.C_alloc HC3.out _) Hc3.out (ab_C w12 4 16)).mono ?_
  rintro e w13 ⟨rfl,hb⟩
  replace HC:=Lib.hid (below_two (Kd.C_alloc HC.out _) hb)
  replace HC3:=Lib.hid (Kd.C_below (Kd.C_alloc HC3.out _) hb)
  replace HB:=Lib.hid (below_step (below_alloc HB.out _) hb)
  clear hb
  go_wp2_with fail
  refine (s_is30 _ _ _ HC3.out Hc3.out).mono ?_
  rintro e w14 ⟨rfl,hb⟩
  replace HC:=Lib.hid (below_two HC.out hb)
  replace HB:=Lib.hid (below_step HB.out hb)
  clear hb
  go_wp2_with fail
  refine (s_chk0 _ _ HC.out).mono ?_
  rintro e w15 ⟨rfl,hb⟩
  replace HB:=Lib.hid (below_step HB.out hb)
  clear hb
  go_wp2_with fail
  refine (s_chk1 _ _ (one_C w15)).mono ?_
  rintro e w16 ⟨rfl,hb⟩
  replace HB:=Lib.hid (below_step (below_alloc HB.out _) hb)
  clear hb
  go_wp2_with fail
  refine (s_chk2 _ _ (pair_C w16)).mono ?_
  rintro e w17 ⟨rfl,hb⟩
  replace HB:=Lib.hid (below_step (below_alloc HB.out _) hb)
  clear hb
  go_wp2
  go_ret
  exact ⟨rfl,HB.out⟩
theorem sane_ev : Ev (fun k=>L48_sane.f k) true:=by
  have i0 : L48_is.f [] 0 []=some true:=is_none (by rw [cur_nil0]) (by rw [cur_nil0])
  have i9 : L48_is.f two 9 []=some true:=is_none (by rw [cur_two9]) (by rw [cur_two9])
  have i19 : L48_is.f two 19 [3,4]=some true:=is_some (by rw [cur_two19]) (by rw [cur_two19]) (by rw [cur_two19]) (by rw [cur_two19])
  have i20 : L48_is.f two 20 [4,16]=some true:=is_some (by rw [cur_two20]) (by rw [cur_two20]) (by rw [cur_two20]) (by rw [cur_two20])
  have i29 : L48_is.f lost 29 [4,16]=some true:=is_some (by rw [cur_lost29]) (by rw [cur_lost29]) (by rw [cur_lost29]) (by rw [cur_lost29])
  have i30 : L48_is.f lost 30 []=some true:=is_none (by rw [cur_lost30]) (by rw [cur_lost30])
  have c0 : devices_Check.f two=some 0:=by unfold devices_Check.f;rw [chk_two]
  have c1 : devices_Check.f [⟨0,0,0,0,1,false⟩]=some 480:=by unfold devices_Check.f;rw [show chk [⟨0,0,0,0,1,false⟩]=480 by simp [chk,chkG,rightD]]
  have c2 : devices_Check.f [⟨0,0,0,0,4,false⟩,⟨1,0,0,1,4,false⟩]=some 480:=by unfold devices_Check.f;rw [show chk [⟨0,0,0,0,4,false⟩,⟨1,0,0,1,4,false⟩]=480 by simp [chk,chkG,rightD,inB,v4,usedB]]
  refine ⟨1,fun k hk=>?_⟩
  obtain ⟨k,rfl⟩ : ∃ m,k=m + 1:=⟨k - 1,by omega⟩
  show L48_sane.f (k + 1)=some true
  unfold L48_sane.f
  rw [Option.bind_some]
  have e2 : ([(⟨3,10,0,0,4,false⟩ : S65),(⟨4,20,0,0,16,false⟩ : S65)] : List S65)=two:=rfl
  have e3 : ([116,101,120,116] : List Int)=txt:=rfl
  rw [e2,e3,add1,Option.bind_some,add2,Option.bind_some,add3,Option.bind_some,add4,Option.bind_some,cur1,Option.bind_some,sgn,Option.bind_some,acc20,Option.bind_some,acc9,Option.bind_some]
  rw [if_pos rfl,if_pos rfl,if_pos rfl,if_pos rfl,if_pos rfl,if_pos rfl,if_pos rfl,if_pos rfl,if_pos (show ((lost.length : Nat) : Int)=3 from rfl),if_pos rfl,if_pos rfl,L48_sane.j0,if_neg (by decide),i0,Option.bind_some,if_pos rfl,i9,Option.bind_some,if_pos rfl,i19,Option.bind_some,if_pos rfl,i20,Option.bind_some,if_pos rfl,i29,Option.bind_some,if_pos rfl,i30,Option.bind_some,if_pos rfl,c0,Option.bind_some,if_pos rfl,c1,Option.bind_some,if_pos rfl,c2,Option.bind_some]
  rfl
end Go.Proofs.YtjbcfdgnafmbkaaDoor.Dev
namespace Go.Proofs.YtjbcfdgnafmbkaaDoor.PBig
open Go.RowKit Go.Proofs.YtjbcfdgnafmbkaaDoor Go.Proofs.YtjbcfdgnafmbkaaDoorW.PrintWords
theorem L48_sane.calls (k : Nat) (r : Bool) (w : World) (hLd : Sha.Laid w) (h : L48_sane.f k=some r) :
    Calls Tryd.prog 40 #[] w fun e w'=>e=.returned (.bool r) ∧ Below w.heap.size w w':=by
  obtain ⟨K,hK⟩:=Dev.sane_ev
  have h1:=hK (max K k) (by omega)
  have h2:=at_rounds (g:=fun k=>L48_sane.f k) (fun k=>L48_sane.mono k) (show k ≤ max K k by omega) h
  obtain rfl:=Option.some.inj (h2.symm.trans h1)
  exact Dev.sane_walk w hLd
end Go.Proofs.YtjbcfdgnafmbkaaDoor.PBig
end
section
set_option linter.unusedVariables false
namespace Go.Proofs.YtjbcfdgnafmbkaaDoor.Dev
open Go.RowKit Go.Proofs.YtjbcfdgnafmbkaaDoor Go.Proofs.YtjbcfdgnafmbkaaDoorW.PrintWords Go.Proofs.YtjbcfdgnafmbkaaDoorW.PrintLast Go.Proofs.YtjbcfdgnafmbkaaDoor.PBig
def okD (l : List S65) (p t k : Int) : Bool:=(cur l p t k).2 && !(cur l p t k).1.f5
def curT (l : List S65) (p t k : Int) : Int × Int × Bool × Int:=if okD l p t k=true then ((cur l p t k).1.f0,(cur l p t k).1.f4,true,0) else (0,0,false,0)
theorem cur_g {l : List S65} {p t k : Int} (h : chk l=0) (ha : argB p t k=true) : devices_Current.f l p t k=some (curT l p t k):=by
  rw [cur_f,curv_ok h ha]
  unfold curT
  change some (if (0 : Int)=0 ∧ okD l p t k=true then _ else _)=_
  cases okD l p t k with
  | true=>rw [if_pos ⟨rfl,rfl⟩,if_pos rfl]
  | false=>rw [if_neg (fun h=>by cases h.2),if_neg (by decide)]
def accT (l : List S65) (p : Int) (b : List Int) (e s t k : Int) : Int × Bool × Int:=if okD l p t k=true ∧ Cod.vfB (cur l p t k).1.f4 b e s=true then ((cur l p t k).1.f0,true,0) else (0,false,0)
theorem acc_g {l : List S65} {p t k : Int} (b : List Int) (e s : Int) (hb : b.length ≤ 1048576) (h : chk l=0) (ha : argB p t k=true) : devices_Accepts.f l p b e s t k=some (accT l p b e s t k):=by
  rw [acc_f _ _ _ _ _ _ _ hb,curv_ok h ha]
  unfold accT
  by_cases hc : okD l p t k=true ∧ Cod.vfB (cur l p t k).1.f4 b e s=true
  · rw [if_pos hc]
    exact congrArg some (if_pos (c:=(0 : Int)=0 ∧ okD l p t k=true ∧ Cod.vfB (cur l p t k).1.f4 b e s=true) ⟨rfl,hc.1,hc.2⟩)
  · rw [if_neg hc]
    exact congrArg some (if_neg (c:=(0 : Int)=0 ∧ okD l p t k=true ∧ Cod.vfB (cur l p t k).1.f4 b e s=true) (fun h=>hc h.2))
end Go.Proofs.YtjbcfdgnafmbkaaDoor.Dev
end
section
namespace Go.Proofs.YtjbcfdgnafmbkaaDoor.PBig
open Go.RowKit Go.Proofs.YtjbcfdgnafmbkaaDoorW.PrintWords Go.Proofs.YtjbcfdgnafmbkaaDoorW.PrintLast Go.Proofs.YtjbcfdgnafmbkaaDoorW.PrintMore
attribute [local go_sem] max2_int min2_int max_two min_two max_three min_three max_four min_four
set_option linter.unusedVariables false
set_option linter.unusedSimpArgs false
attribute [local go_sem high] eqA65
def R48_Error.f (k : Nat) (l0 : List (S65)) (a1 : Int) (a2 : Int) (a3 : Int) : Option (Int):=(R48_Check.f k l0).bind fun t262=>(if t262=0 then ((R48_Person.f a1).bind fun t263=>(if t263=true then ((R48_Time.f a2).bind fun t264=>(if t264=true then ((R48_Time.f a3).bind fun t265=>(if t265=true then (some 0) else (some 1))) else (some 1))) else (some 1))) else (some t262))
theorem R48_Error.mono : ∀ a0 a1 a2 a3 k,LeO (R48_Error.f k a0 a1 a2 a3) (R48_Error.f (k + 1) a0 a1 a2 a3):=by
 intro a0 a1 a2 a3 k
 unfold R48_Error.f
 repeat' first
   | (with_reducible exact R48_Check.mono _ _)
   | (with_reducible exact LeO.refl _)
   | (with_reducible exact LeO.none _)
   | (with_reducible refine LeO.ite ?_ ?_)
   | (with_reducible refine LeO.bind ?_ (fun _=>?_))
   | exact R48_Check.mono _ _
   | exact LeO.none _
   | refine LeO.ite ?_ ?_
   | refine LeO.bind ?_ (fun _=>?_)
set_option maxHeartbeats 8000000 in
set_option maxRecDepth 100000 in
theorem R48_Error.calls (k : Nat) (A0 : Option Addr) (c0 : Nat) (l0 : List (S65)) (a1 : Int) (a2 : Int) (a3 : Int) (r : Int) (w : World) (hr0 : Kd.C k65 w A0 l0.length l0) (hc0 : l0.length ≤ c0) (h : R48_Error.f k l0 a1 a2 a3=some r) :
  Calls Tryd.prog 85 #[.slice A0 l0.length c0,.int .i64 a1,.int .i64 a2,.int .i64 a3] w fun e w'=>e=.returned (.int .i64 r) ∧ Below w.heap.size w w':=by
 have HR0:=Aside0.mk hr0
 have HC0:=Aside0.mk hc0
 clear hr0 hc0
 have HB:=Aside0.mk (Below.refl w.heap.size w)
 have H : ((R48_Check.f k l0).bind fun t262=>(if t262=0 then ((R48_Person.f a1).bind fun t263=>(if t263=true then ((R48_Time.f a2).bind fun t264=>(if t264=true then ((R48_Time.f a3).bind fun t265=>(if t265=true then (some 0) else (some 1))) else (some 1))) else (some 1))) else (some t262)))=some r:=h
 clear h
 replace H:=Option.bind_eq_some_iff.mp H
 obtain ⟨t262,A50,H⟩:=H
 replace H : (if t262=0 then ((R48_Person.f a1).bind fun t263=>(if t263=true then ((R48_Time.f a2).bind fun t264=>(if t264=true then ((R48_Time.f a3).bind fun t265=>(if t265=true then (some 0) else (some 1))) else (some 1))) else (some 1))) else (some t262))=some r:=H
 have A5:=Aside0.mk A50
 clear A50
 by_cases c6 : t262=0
 ·rw [if_pos c6] at H
  have c6b0 : (t262 == 0)=true:=beq_iff_eq.mpr c6
  have c6b1 : (t262 != 0)=false:=bne_eq_false_iff_eq.mpr c6
  clear c6
  replace H:=Option.bind_eq_some_iff.mp H
  obtain ⟨t263,A70,H⟩:=H
  replace H : (if t263=true then ((R48_Time.f a2).bind fun t264=>(if t264=true then ((R48_Time.f a3).bind fun t265=>(if t265=true then (some 0) else (some 1))) else (some 1))) else (some 1))=some r:=H
  have A7:=Aside0.mk A70
  clear A70
  by_cases c8 : t263=true
  ·subst c8
   have H1 : ((R48_Time.f a2).bind fun t264=>(if t264=true then ((R48_Time.f a3).bind fun t265=>(if t265=true then (some 0) else (some 1))) else (some 1)))=some r:=by rw [if_pos rfl] at H;exact H
   clear H
   have H:=H1
   clear H1
   replace H:=Option.bind_eq_some_iff.mp H
   obtain ⟨t264,A90,H⟩:=H
   replace H : (if t264=true then ((R48_Time.f a3).bind fun t265=>(if t265=true then (some 0) else (some 1))) else (some 1))=some r:=H
   have A9:=Aside0.mk A90
   clear A90
   by_cases c10 : t264=true
   ·subst c10
    have H1 : ((R48_Time.f a3).bind fun t265=>(if t265=true then (some 0) else (some 1)))=some r:=by rw [if_pos rfl] at H;exact H
    clear H
    have H:=H1
    clear H1
    replace H:=Option.bind_eq_some_iff.mp H
    obtain ⟨t265,A110,H⟩:=H
    replace H : (if t265=true then (some 0) else (some 1))=some r:=H
    have A11:=Aside0.mk A110
    clear A110
    by_cases c12 : t265=true
    ·subst c12
     have H1 : (some 0)=some r:=by rw [if_pos rfl] at H;exact H
     clear H
     have H:=H1
     clear H1
     obtain rfl:=Option.some.inj H
     go_enter Tryd.func85,Tryd.ntmps85
     go_wp2_with (first | ((with_reducible refine gate_callee (f:=45) rfl ?_);refine goesL_ (some 11) rfl rfl Tryd.func45 (by kernel_rfl) rfl #[.slice A0 l0.length c0] rfl (by (try simp only [List.map_toArray,List.map_cons,List.map_nil]);first | done | rfl | (simp only [List.length_drop,List.length_take];rfl)) ?_;(with_reducible refine (R48_Check.calls k _ _ l0 t262 _ ?side1 ?side2 A5.out).mono ?_);(case side1=>repeat (first | exact HR0.out | (with_reducible refine Kd.C_alloc ?_ _) | (with_reducible refine Kd.C_drewN ?_ _) | (with_reducible refine Kd.C_drew ?_)));(case side2=>exact HC0.out);rintro e w13 ⟨rfl,hb⟩;refine ⟨_,rfl,?_⟩;have n0_:=Aside0.mk (below_step (by repeat (first | (with_reducible first | exact HB.out | apply below_alloc | apply pw_below_drewN | apply below_drew1) | exact HB.out)) hb);clear HB;have HB:=n0_;clear n0_;(try clear hb);(try clear hb2);(try clear hk);(try clear hi)) | ((with_reducible refine gate_callee (f:=52) rfl ?_);refine goesL_ (some 16) rfl rfl Tryd.func52 (by kernel_rfl) rfl #[.int .i64 a1] rfl (by (try simp only [List.map_toArray,List.map_cons,List.map_nil]);first | done | rfl | (simp only [List.length_drop,List.length_take];rfl)) ?_;(with_reducible refine (R48_Person.calls a1 true _ A7.out).mono ?_);rintro e w' ⟨rfl,⟨nd,rfl⟩⟩;refine ⟨_,rfl,?_⟩) | (go_at_call 88;(with_reducible refine (R48_Time.calls a2 true _ A9.out).mono ?_);rintro e w' ⟨rfl,⟨nd,rfl⟩⟩) | (go_at_call 88;(with_reducible refine (R48_Time.calls a3 true _ A11.out).mono ?_);rintro e w' ⟨rfl,⟨nd,rfl⟩⟩))
     go_ret
     exact ⟨by first | rfl | (simp [errW_none,errW_some] <;> rfl) | (simp [*,errW_none,errW_some] <;> rfl),by repeat (first | (with_reducible first | exact HB.out | apply below_alloc | apply pw_below_drewN | apply below_drew1) | exact HB.out)⟩
    ·replace c12:=Bool.eq_false_iff.mpr c12
     subst c12
     have H1 : (some 1)=some r:=by rw [if_neg (show ¬ (false=true) by decide)] at H;exact H
     clear H
     have H:=H1
     clear H1
     obtain rfl:=Option.some.inj H
     go_enter Tryd.func85,Tryd.ntmps85
     go_wp2_with (first | ((with_reducible refine gate_callee (f:=45) rfl ?_);refine goesL_ (some 11) rfl rfl Tryd.func45 (by kernel_rfl) rfl #[.slice A0 l0.length c0] rfl (by (try simp only [List.map_toArray,List.map_cons,List.map_nil]);first | done | rfl | (simp only [List.length_drop,List.length_take];rfl)) ?_;(with_reducible refine (R48_Check.calls k _ _ l0 t262 _ ?side1 ?side2 A5.out).mono ?_);(case side1=>repeat (first | exact HR0.out | (with_reducible refine Kd.C_alloc ?_ _) | (with_reducible refine Kd.C_drewN ?_ _) | (with_reducible refine Kd.C_drew ?_)));(case side2=>exact HC0.out);rintro e w14 ⟨rfl,hb⟩;refine ⟨_,rfl,?_⟩;have n0_:=Aside0.mk (below_step (by repeat (first | (with_reducible first | exact HB.out | apply below_alloc | apply pw_below_drewN | apply below_drew1) | exact HB.out)) hb);clear HB;have HB:=n0_;clear n0_;(try clear hb);(try clear hb2);(try clear hk);(try clear hi)) | ((with_reducible refine gate_callee (f:=52) rfl ?_);refine goesL_ (some 16) rfl rfl Tryd.func52 (by kernel_rfl) rfl #[.int .i64 a1] rfl (by (try simp only [List.map_toArray,List.map_cons,List.map_nil]);first | done | rfl | (simp only [List.length_drop,List.length_take];rfl)) ?_;(with_reducible refine (R48_Person.calls a1 true _ A7.out).mono ?_);rintro e w' ⟨rfl,⟨nd,rfl⟩⟩;refine ⟨_,rfl,?_⟩) | (go_at_call 88;(with_reducible refine (R48_Time.calls a2 true _ A9.out).mono ?_);rintro e w' ⟨rfl,⟨nd,rfl⟩⟩) | (go_at_call 88;(with_reducible refine (R48_Time.calls a3 false _ A11.out).mono ?_);rintro e w' ⟨rfl,⟨nd,rfl⟩⟩))
     go_ret
     exact ⟨by first | rfl | (simp [errW_none,errW_some] <;> rfl) | (simp [*,errW_none,errW_some] <;> rfl),by repeat (first | (with_reducible first | exact HB.out | apply below_alloc | apply pw_below_drewN | apply below_drew1) | exact HB.out)⟩
   ·replace c10:=Bool.eq_false_iff.mpr c10
    subst c10
    have H1 : (some 1)=some r:=by rw [if_neg (show ¬ (false=true) by decide)] at H;exact H
    clear H
    have H:=H1
    clear H1
    obtain rfl:=Option.some.inj H
    go_enter Tryd.func85,Tryd.ntmps85
    go_wp2_with (first | ((with_reducible refine gate_callee (f:=45) rfl ?_);refine goesL_ (some 11) rfl rfl Tryd.func45 (by kernel_rfl) rfl #[.slice A0 l0.length c0] rfl (by (try simp only [List.map_toArray,List.map_cons,List.map_nil]);first | done | rfl | (simp only [List.length_drop,List.length_take];rfl)) ?_;(with_reducible refine (R48_Check.calls k _ _ l0 t262 _ ?side1 ?side2 A5.out).mono ?_);(case side1=>repeat (first | exact HR0.out | (with_reducible refine Kd.C_alloc ?_ _) | (with_reducible refine Kd.C_drewN ?_ _) | (with_reducible refine Kd.C_drew ?_)));(case side2=>exact HC0.out);rintro e w15 ⟨rfl,hb⟩;refine ⟨_,rfl,?_⟩;have n0_:=Aside0.mk (below_step (by repeat (first | (with_reducible first | exact HB.out | apply below_alloc | apply pw_below_drewN | apply below_drew1) | exact HB.out)) hb);clear HB;have HB:=n0_;clear n0_;(try clear hb);(try clear hb2);(try clear hk);(try clear hi)) | ((with_reducible refine gate_callee (f:=52) rfl ?_);refine goesL_ (some 16) rfl rfl Tryd.func52 (by kernel_rfl) rfl #[.int .i64 a1] rfl (by (try simp only [List.map_toArray,List.map_cons,List.map_nil]);first | done | rfl | (simp only [List.length_drop,List.length_take];rfl)) ?_;(with_reducible refine (R48_Person.calls a1 true _ A7.out).mono ?_);rintro e w' ⟨rfl,⟨nd,rfl⟩⟩;refine ⟨_,rfl,?_⟩) | (go_at_call 88;(with_reducible refine (R48_Time.calls a2 false _ A9.out).mono ?_);rintro e w' ⟨rfl,⟨nd,rfl⟩⟩))
    go_ret
    exact ⟨by first | rfl | (simp [errW_none,errW_some] <;> rfl) | (simp [*,errW_none,errW_some] <;> rfl),by repeat (first | (with_reducible first | exact HB.out | apply below_alloc | apply pw_below_drewN | apply below_drew1) | exact HB.out)⟩
  ·replace c8:=Bool.eq_false_iff.mpr c8
   subst c8
   have H1 : (some 1)=some r:=by rw [if_neg (show ¬ (false=true) by decide)] at H;exact H
   clear H
   have H:=H1
   clear H1
   obtain rfl:=Option.some.inj H
   go_enter Tryd.func85,Tryd.ntmps85
   go_wp2_with (first | ((with_reducible refine gate_callee (f:=45) rfl ?_);refine goesL_ (some 11) rfl rfl Tryd.func45 (by kernel_rfl) rfl #[.slice A0 l0.length c0] rfl (by (try simp only [List.map_toArray,List.map_cons,List.map_nil]);first | done | rfl | (simp only [List.length_drop,List.length_take];rfl)) ?_;(with_reducible refine (R48_Check.calls k _ _ l0 t262 _ ?side1 ?side2 A5.out).mono ?_);(case side1=>repeat (first | exact HR0.out | (with_reducible refine Kd.C_alloc ?_ _) | (with_reducible refine Kd.C_drewN ?_ _) | (with_reducible refine Kd.C_drew ?_)));(case side2=>exact HC0.out);rintro e w16 ⟨rfl,hb⟩;refine ⟨_,rfl,?_⟩;have n0_:=Aside0.mk (below_step (by repeat (first | (with_reducible first | exact HB.out | apply below_alloc | apply pw_below_drewN | apply below_drew1) | exact HB.out)) hb);clear HB;have HB:=n0_;clear n0_;(try clear hb);(try clear hb2);(try clear hk);(try clear hi)) | ((with_reducible refine gate_callee (f:=52) rfl ?_);refine goesL_ (some 16) rfl rfl Tryd.func52 (by kernel_rfl) rfl #[.int .i64 a1] rfl (by (try simp only [List.map_toArray,List.map_cons,List.map_nil]);first | done | rfl | (simp only [List.length_drop,List.length_take];rfl)) ?_;(with_reducible refine (R48_Person.calls a1 false _ A7.out).mono ?_);rintro e w' ⟨rfl,⟨nd,rfl⟩⟩;refine ⟨_,rfl,?_⟩))
   go_ret
   exact ⟨by first | rfl | (simp [errW_none,errW_some] <;> rfl) | (simp [*,errW_none,errW_some] <;> rfl),by repeat (first | (with_reducible first | exact HB.out | apply below_alloc | apply pw_below_drewN | apply below_drew1) | exact HB.out)⟩
 ·rw [if_neg c6] at H
  have c6b0 : (t262 == 0)=false:=beq_eq_false_iff_ne.mpr c6
  have c6b1 : (t262 != 0)=true:=bne_iff_ne.mpr c6
  obtain rfl:=Option.some.inj H
  go_enter Tryd.func85,Tryd.ntmps85
  go_wp2_with (first | ((with_reducible refine gate_callee (f:=45) rfl ?_);refine goesL_ (some 11) rfl rfl Tryd.func45 (by kernel_rfl) rfl #[.slice A0 l0.length c0] rfl (by (try simp only [List.map_toArray,List.map_cons,List.map_nil]);first | done | rfl | (simp only [List.length_drop,List.length_take];rfl)) ?_;(with_reducible refine (R48_Check.calls k _ _ l0 t262 _ ?side1 ?side2 A5.out).mono ?_);(case side1=>repeat (first | exact HR0.out | (with_reducible refine Kd.C_alloc ?_ _) | (with_reducible refine Kd.C_drewN ?_ _) | (with_reducible refine Kd.C_drew ?_)));(case side2=>exact HC0.out);rintro e w17 ⟨rfl,hb⟩;refine ⟨_,rfl,?_⟩;have n0_:=Aside0.mk (below_step (by repeat (first | (with_reducible first | exact HB.out | apply below_alloc | apply pw_below_drewN | apply below_drew1) | exact HB.out)) hb);clear HB;have HB:=n0_;clear n0_;(try clear hb);(try clear hb2);(try clear hk);(try clear hi)))
  go_ret
  exact ⟨by first | rfl | (simp [errW_none,errW_some] <;> rfl) | (simp [*,errW_none,errW_some] <;> rfl),by repeat (first | (with_reducible first | exact HB.out | apply below_alloc | apply pw_below_drewN | apply below_drew1) | exact HB.out)⟩
def R48_current.l0 : Nat → List (S65) → Int → Int → Int → Int → Int → Option (Int)
 | 0,_,_,_,_,_,_=>none
 | k + 1,x0,x1,x2,x3,x9,x10=>if x10 < (x0.length : Int) then (if 0 ≤ x10 then (if ((rd_T65 x0 x10).f3)=x1 then (if ((rd_T65 x0 x10).f1) ≤ x2 then (if ((rd_T65 x0 x10).f2) ≤ x3 then (if x9 < 0 then (R48_current.l0 k x0 x1 x2 x3 x10 (wrap64 (x10 + 1))) else (if 0 ≤ x9 then (if x9 < (x0.length : Int) then (if ((rd_T65 x0 x10).f1) ≥ ((rd_T65 x0 x9).f1) then (R48_current.l0 k x0 x1 x2 x3 x10 (wrap64 (x10 + 1))) else (R48_current.l0 k x0 x1 x2 x3 x9 (wrap64 (x10 + 1)))) else (none)) else (none))) else (R48_current.l0 k x0 x1 x2 x3 x9 (wrap64 (x10 + 1)))) else (R48_current.l0 k x0 x1 x2 x3 x9 (wrap64 (x10 + 1)))) else (R48_current.l0 k x0 x1 x2 x3 x9 (wrap64 (x10 + 1)))) else (none)) else (if x9 ≥ 0 then (if 0 ≤ x9 then (if x9 < (x0.length : Int) then (if (rd_T65 x0 x9).f5=true then (some (-1)) else (some x9)) else (none)) else (none)) else (some x9))
def R48_current.f (k : Nat) (l0 : List (S65)) (a1 : Int) (a2 : Int) (a3 : Int) : Option (Int):=R48_current.l0 k l0 a1 a2 a3 (-1) 0
theorem R48_current.mono_l : ∀ k,(∀ y0 y1 y2 y3 y4 y5,LeO (R48_current.l0 k y0 y1 y2 y3 y4 y5) (R48_current.l0 (k + 1) y0 y1 y2 y3 y4 y5))
 | 0=>fun _ _ _ _ _ _ r h=>by simp [R48_current.l0] at h
 | k + 1=>by
  have ih0:=R48_current.mono_l k
  ·intro y0 y1 y2 y3 y4 y5
   unfold R48_current.l0
   repeat' first
   | (with_reducible exact ih0 _ _ _ _ _ _)
   | (with_reducible exact LeO.refl _)
   | (with_reducible exact LeO.none _)
   | (with_reducible refine LeO.ite ?_ ?_)
   | (with_reducible refine LeO.bind ?_ (fun _=>?_))
   | exact ih0 _ _ _ _ _ _
   | exact LeO.none _
   | refine LeO.ite ?_ ?_
   | refine LeO.bind ?_ (fun _=>?_)
theorem R48_current.mono : ∀ a0 a1 a2 a3 k,LeO (R48_current.f k a0 a1 a2 a3) (R48_current.f (k + 1) a0 a1 a2 a3):=by
 intro a0 a1 a2 a3 k
 have ih0:=R48_current.mono_l k
 unfold R48_current.f
 repeat' first
   | (with_reducible exact ih0 _ _ _ _ _ _)
   | (with_reducible exact LeO.refl _)
   | (with_reducible exact LeO.none _)
   | (with_reducible refine LeO.ite ?_ ?_)
   | (with_reducible refine LeO.bind ?_ (fun _=>?_))
   | exact ih0 _ _ _ _ _ _
   | exact LeO.none _
   | refine LeO.ite ?_ ?_
   | refine LeO.bind ?_ (fun _=>?_)
set_option maxHeartbeats 8000000 in
set_option maxRecDepth 100000 in
theorem R48_current.calls (k : Nat) (A0 : Option Addr) (c0 : Nat) (l0 : List (S65)) (a1 : Int) (a2 : Int) (a3 : Int) (r : Int) (w : World) (hr0 : Kd.C k65 w A0 l0.length l0) (hc0 : l0.length ≤ c0) (h : R48_current.f k l0 a1 a2 a3=some r) :
  Calls Tryd.prog 86 #[.slice A0 l0.length c0,.int .i64 a1,.int .i64 a2,.int .i64 a3] w fun e w'=>e=.returned (.int .i64 r) ∧ Drawn0 w w':=by
 have HR0:=Aside0.mk hr0
 have HC0:=Aside0.mk hc0
 clear hr0 hc0
 have H : (R48_current.l0 k l0 a1 a2 a3 (-1) 0)=some r:=h
 clear h
 have H':=Aside0.mk H
 clear H
 go_enter Tryd.func86,Tryd.ntmps86
 go_wp2
 repeat (go_quiet (fail);try go_wp2)
 go_loopg [9,10] k (fun kq v9 v10 w'=>∃ (x9_1 : Int) (x10_1 : Int),v9=.int .i64 x9_1 ∧ v10=.int .i64 x10_1 ∧ Aside0 (R48_current.l0 kq l0 a1 a2 a3 x9_1 x10_1=some r) ∧ Aside0 (kq ≤ k) ∧ Drawn0 w w')
 case atStart=>exact ⟨((-1)),(0),(by first | rfl | (simp;done) | (simp [*];done)),(by first | rfl | (simp;done) | (simp [*];done)),H',⟨Nat.le_refl _⟩,by repeat (first | exact Drawn0.refl _ | apply Drawn0.step)⟩
 case round =>
  clear H'
  try clear p2
  obtain ⟨x9_1,x10_1,rfl,rfl,HA,HK1,⟨m1,rfl⟩⟩:=hrel
  cases gk with
  | zero=>exact absurd HA.out (by simp [R48_current.l0])
  | succ k1 =>
   have H:=HA.out
   clear HA
   simp only [R48_current.l0] at H
   by_cases c5 : x10_1 < (l0.length : Int)
   ·rw [if_pos c5] at H
    have c5b0 : decide (x10_1 < (l0.length : Int))=true:=decide_eq_true c5
    clear c5
    by_cases c6 : 0 ≤ x10_1
    ·rw [if_pos c6] at H
     have c6b0 : decide (0 ≤ x10_1)=true:=decide_eq_true c6
     clear c6
     by_cases c7 : ((rd_T65 l0 x10_1).f3)=a1
     ·rw [if_pos c7] at H
      have c7b0 : (((rd_T65 l0 x10_1).f3) == a1)=true:=beq_iff_eq.mpr c7
      have c7b1 : (((rd_T65 l0 x10_1).f3) != a1)=false:=bne_eq_false_iff_eq.mpr c7
      clear c7
      by_cases c8 : ((rd_T65 l0 x10_1).f1) ≤ a2
      ·rw [if_pos c8] at H
       have c8b0 : decide (((rd_T65 l0 x10_1).f1) ≤ a2)=true:=decide_eq_true c8
       clear c8
       by_cases c9 : ((rd_T65 l0 x10_1).f2) ≤ a3
       ·rw [if_pos c9] at H
        have c9b0 : decide (((rd_T65 l0 x10_1).f2) ≤ a3)=true:=decide_eq_true c9
        clear c9
        by_cases c10 : x9_1 < 0
        ·rw [if_pos c10] at H
         have c10b0 : decide (x9_1 < 0)=true:=decide_eq_true c10
         clear c10
         have H':=Aside0.mk H
         clear H
         have p266 : 0 ≤ (x10_1 : Int):=of_decide_eq_true (by first | (with_reducible assumption) | assumption)
         have q266 : x10_1 < (l0.length : Int):=of_decide_eq_true (by first | (with_reducible assumption) | assumption)
         obtain ⟨ad266,e266,hx266_0,hx266_1,hx266_2,hx266_3,hx266_4,hx266_5⟩:=at_T65 HR0.out x10_1 p266 q266
         cases e266
         replace p266:=eq_true p266
         replace q266:=eq_true q266
         have p267 : 0 ≤ (x10_1 : Int):=of_decide_eq_true (by first | (with_reducible assumption) | assumption)
         have q267 : x10_1 < (l0.length : Int):=of_decide_eq_true (by first | (with_reducible assumption) | assumption)
         obtain ⟨ad267,e267,hx267_0,hx267_1,hx267_2,hx267_3,hx267_4,hx267_5⟩:=at_T65 HR0.out x10_1 p267 q267
         obtain rfl : ad266=ad267:=(by injection e267)
         replace p267:=eq_true p267
         replace q267:=eq_true q267
         have p268 : 0 ≤ (x10_1 : Int):=of_decide_eq_true (by first | (with_reducible assumption) | assumption)
         have q268 : x10_1 < (l0.length : Int):=of_decide_eq_true (by first | (with_reducible assumption) | assumption)
         obtain ⟨ad268,e268,hx268_0,hx268_1,hx268_2,hx268_3,hx268_4,hx268_5⟩:=at_T65 HR0.out x10_1 p268 q268
         obtain rfl : ad266=ad268:=(by injection e268)
         replace p268:=eq_true p268
         replace q268:=eq_true q268
         go_wp2
         repeat (go_quiet (fail);try go_wp2)
         go_roundg k1
         case measure=>have:=HK1.out;omega
         case rel=>exact ⟨(x10_1),(wrap64 (x10_1 + 1)),(by first | rfl | (simp;done) | (simp [*];done)),(by first | rfl | (simp;done) | (simp [*];done)),H',⟨by have:=HK1.out;omega⟩,by repeat (first | exact Drawn0.refl _ | apply Drawn0.step)⟩
        ·rw [if_neg c10] at H
         have c10b0 : decide (x9_1 < 0)=false:=decide_eq_false c10
         clear c10
         by_cases c11 : 0 ≤ x9_1
         ·rw [if_pos c11] at H
          have c11b0 : decide (0 ≤ x9_1)=true:=decide_eq_true c11
          clear c11
          by_cases c12 : x9_1 < (l0.length : Int)
          ·rw [if_pos c12] at H
           have c12b0 : decide (x9_1 < (l0.length : Int))=true:=decide_eq_true c12
           clear c12
           by_cases c13 : ((rd_T65 l0 x10_1).f1) ≥ ((rd_T65 l0 x9_1).f1)
           ·rw [if_pos c13] at H
            have c13b0 : decide (((rd_T65 l0 x9_1).f1) ≤ ((rd_T65 l0 x10_1).f1))=true:=decide_eq_true c13
            clear c13
            have H':=Aside0.mk H
            clear H
            have p266 : 0 ≤ (x10_1 : Int):=of_decide_eq_true (by first | (with_reducible assumption) | assumption)
            have q266 : x10_1 < (l0.length : Int):=of_decide_eq_true (by first | (with_reducible assumption) | assumption)
            obtain ⟨ad266,e266,hx266_0,hx266_1,hx266_2,hx266_3,hx266_4,hx266_5⟩:=at_T65 HR0.out x10_1 p266 q266
            cases e266
            replace p266:=eq_true p266
            replace q266:=eq_true q266
            have p267 : 0 ≤ (x10_1 : Int):=of_decide_eq_true (by first | (with_reducible assumption) | assumption)
            have q267 : x10_1 < (l0.length : Int):=of_decide_eq_true (by first | (with_reducible assumption) | assumption)
            obtain ⟨ad267,e267,hx267_0,hx267_1,hx267_2,hx267_3,hx267_4,hx267_5⟩:=at_T65 HR0.out x10_1 p267 q267
            obtain rfl : ad266=ad267:=(by injection e267)
            replace p267:=eq_true p267
            replace q267:=eq_true q267
            have p268 : 0 ≤ (x10_1 : Int):=of_decide_eq_true (by first | (with_reducible assumption) | assumption)
            have q268 : x10_1 < (l0.length : Int):=of_decide_eq_true (by first | (with_reducible assumption) | assumption)
            obtain ⟨ad268,e268,hx268_0,hx268_1,hx268_2,hx268_3,hx268_4,hx268_5⟩:=at_T65 HR0.out x10_1 p268 q268
            obtain rfl : ad266=ad268:=(by injection e268)
            replace p268:=eq_true p268
            replace q268:=eq_true q268
            have p269 : 0 ≤ (x10_1 : Int):=of_decide_eq_true (by first | (with_reducible assumption) | assumption)
            have q269 : x10_1 < (l0.length : Int):=of_decide_eq_true (by first | (with_reducible assumption) | assumption)
            obtain ⟨ad269,e269,hx269_0,hx269_1,hx269_2,hx269_3,hx269_4,hx269_5⟩:=at_T65 HR0.out x10_1 p269 q269
            obtain rfl : ad266=ad269:=(by injection e269)
            replace p269:=eq_true p269
            replace q269:=eq_true q269
            have p270 : 0 ≤ (x9_1 : Int):=of_decide_eq_true (by first | (with_reducible assumption) | assumption)
            have q270 : x9_1 < (l0.length : Int):=of_decide_eq_true (by first | (with_reducible assumption) | assumption)
            obtain ⟨ad270,e270,hx270_0,hx270_1,hx270_2,hx270_3,hx270_4,hx270_5⟩:=at_T65 HR0.out x9_1 p270 q270
            obtain rfl : ad266=ad270:=(by injection e270)
            replace p270:=eq_true p270
            replace q270:=eq_true q270
            go_wp2
            repeat (go_quiet (fail);try go_wp2)
            go_roundg k1
            case measure=>have:=HK1.out;omega
            case rel=>exact ⟨(x10_1),(wrap64 (x10_1 + 1)),(by first | rfl | (simp;done) | (simp [*];done)),(by first | rfl | (simp;done) | (simp [*];done)),H',⟨by have:=HK1.out;omega⟩,by repeat (first | exact Drawn0.refl _ | apply Drawn0.step)⟩
           ·rw [if_neg c13] at H
            have c13b0 : decide (((rd_T65 l0 x9_1).f1) ≤ ((rd_T65 l0 x10_1).f1))=false:=decide_eq_false c13
            clear c13
            have H':=Aside0.mk H
            clear H
            have p266 : 0 ≤ (x10_1 : Int):=of_decide_eq_true (by first | (with_reducible assumption) | assumption)
            have q266 : x10_1 < (l0.length : Int):=of_decide_eq_true (by first | (with_reducible assumption) | assumption)
            obtain ⟨ad266,e266,hx266_0,hx266_1,hx266_2,hx266_3,hx266_4,hx266_5⟩:=at_T65 HR0.out x10_1 p266 q266
            cases e266
            replace p266:=eq_true p266
            replace q266:=eq_true q266
            have p267 : 0 ≤ (x10_1 : Int):=of_decide_eq_true (by first | (with_reducible assumption) | assumption)
            have q267 : x10_1 < (l0.length : Int):=of_decide_eq_true (by first | (with_reducible assumption) | assumption)
            obtain ⟨ad267,e267,hx267_0,hx267_1,hx267_2,hx267_3,hx267_4,hx267_5⟩:=at_T65 HR0.out x10_1 p267 q267
            obtain rfl : ad266=ad267:=(by injection e267)
            replace p267:=eq_true p267
            replace q267:=eq_true q267
            have p268 : 0 ≤ (x10_1 : Int):=of_decide_eq_true (by first | (with_reducible assumption) | assumption)
            have q268 : x10_1 < (l0.length : Int):=of_decide_eq_true (by first | (with_reducible assumption) | assumption)
            obtain ⟨ad268,e268,hx268_0,hx268_1,hx268_2,hx268_3,hx268_4,hx268_5⟩:=at_T65 HR0.out x10_1 p268 q268
            obtain rfl : ad266=ad268:=(by injection e268)
            replace p268:=eq_true p268
            replace q268:=eq_true q268
            have p269 : 0 ≤ (x10_1 : Int):=of_decide_eq_true (by first | (with_reducible assumption) | assumption)
            have q269 : x10_1 < (l0.length : Int):=of_decide_eq_true (by first | (with_reducible assumption) | assumption)
            obtain ⟨ad269,e269,hx269_0,hx269_1,hx269_2,hx269_3,hx269_4,hx269_5⟩:=at_T65 HR0.out x10_1 p269 q269
            obtain rfl : ad266=ad269:=(by injection e269)
            replace p269:=eq_true p269
            replace q269:=eq_true q269
            have p270 : 0 ≤ (x9_1 : Int):=of_decide_eq_true (by first | (with_reducible assumption) | assumption)
            have q270 : x9_1 < (l0.length : Int):=of_decide_eq_true (by first | (with_reducible assumption) | assumption)
            obtain ⟨ad270,e270,hx270_0,hx270_1,hx270_2,hx270_3,hx270_4,hx270_5⟩:=at_T65 HR0.out x9_1 p270 q270
            obtain rfl : ad266=ad270:=(by injection e270)
            replace p270:=eq_true p270
            replace q270:=eq_true q270
            go_wp2
            repeat (go_quiet (fail);try go_wp2)
            go_roundg k1
            case measure=>have:=HK1.out;omega
            case rel=>exact ⟨(x9_1),(wrap64 (x10_1 + 1)),(by first | rfl | (simp;done) | (simp [*];done)),(by first | rfl | (simp;done) | (simp [*];done)),H',⟨by have:=HK1.out;omega⟩,by repeat (first | exact Drawn0.refl _ | apply Drawn0.step)⟩
          ·rw [if_neg c12] at H
           exact absurd H (by simp)
         ·rw [if_neg c11] at H
          exact absurd H (by simp)
       ·rw [if_neg c9] at H
        have c9b0 : decide (((rd_T65 l0 x10_1).f2) ≤ a3)=false:=decide_eq_false c9
        clear c9
        have H':=Aside0.mk H
        clear H
        have p266 : 0 ≤ (x10_1 : Int):=of_decide_eq_true (by first | (with_reducible assumption) | assumption)
        have q266 : x10_1 < (l0.length : Int):=of_decide_eq_true (by first | (with_reducible assumption) | assumption)
        obtain ⟨ad266,e266,hx266_0,hx266_1,hx266_2,hx266_3,hx266_4,hx266_5⟩:=at_T65 HR0.out x10_1 p266 q266
        cases e266
        replace p266:=eq_true p266
        replace q266:=eq_true q266
        have p267 : 0 ≤ (x10_1 : Int):=of_decide_eq_true (by first | (with_reducible assumption) | assumption)
        have q267 : x10_1 < (l0.length : Int):=of_decide_eq_true (by first | (with_reducible assumption) | assumption)
        obtain ⟨ad267,e267,hx267_0,hx267_1,hx267_2,hx267_3,hx267_4,hx267_5⟩:=at_T65 HR0.out x10_1 p267 q267
        obtain rfl : ad266=ad267:=(by injection e267)
        replace p267:=eq_true p267
        replace q267:=eq_true q267
        have p268 : 0 ≤ (x10_1 : Int):=of_decide_eq_true (by first | (with_reducible assumption) | assumption)
        have q268 : x10_1 < (l0.length : Int):=of_decide_eq_true (by first | (with_reducible assumption) | assumption)
        obtain ⟨ad268,e268,hx268_0,hx268_1,hx268_2,hx268_3,hx268_4,hx268_5⟩:=at_T65 HR0.out x10_1 p268 q268
        obtain rfl : ad266=ad268:=(by injection e268)
        replace p268:=eq_true p268
        replace q268:=eq_true q268
        go_wp2
        repeat (go_quiet (fail);try go_wp2)
        go_roundg k1
        case measure=>have:=HK1.out;omega
        case rel=>exact ⟨(x9_1),(wrap64 (x10_1 + 1)),(by first | rfl | (simp;done) | (simp [*];done)),(by first | rfl | (simp;done) | (simp [*];done)),H',⟨by have:=HK1.out;omega⟩,by repeat (first | exact Drawn0.refl _ | apply Drawn0.step)⟩
      ·rw [if_neg c8] at H
       have c8b0 : decide (((rd_T65 l0 x10_1).f1) ≤ a2)=false:=decide_eq_false c8
       clear c8
       have H':=Aside0.mk H
       clear H
       have p266 : 0 ≤ (x10_1 : Int):=of_decide_eq_true (by first | (with_reducible assumption) | assumption)
       have q266 : x10_1 < (l0.length : Int):=of_decide_eq_true (by first | (with_reducible assumption) | assumption)
       obtain ⟨ad266,e266,hx266_0,hx266_1,hx266_2,hx266_3,hx266_4,hx266_5⟩:=at_T65 HR0.out x10_1 p266 q266
       cases e266
       replace p266:=eq_true p266
       replace q266:=eq_true q266
       have p267 : 0 ≤ (x10_1 : Int):=of_decide_eq_true (by first | (with_reducible assumption) | assumption)
       have q267 : x10_1 < (l0.length : Int):=of_decide_eq_true (by first | (with_reducible assumption) | assumption)
       obtain ⟨ad267,e267,hx267_0,hx267_1,hx267_2,hx267_3,hx267_4,hx267_5⟩:=at_T65 HR0.out x10_1 p267 q267
       obtain rfl : ad266=ad267:=(by injection e267)
       replace p267:=eq_true p267
       replace q267:=eq_true q267
       go_wp2
       repeat (go_quiet (fail);try go_wp2)
       go_roundg k1
       case measure=>have:=HK1.out;omega
       case rel=>exact ⟨(x9_1),(wrap64 (x10_1 + 1)),(by first | rfl | (simp;done) | (simp [*];done)),(by first | rfl | (simp;done) | (simp [*];done)),H',⟨by have:=HK1.out;omega⟩,by repeat (first | exact Drawn0.refl _ | apply Drawn0.step)⟩
     ·rw [if_neg c7] at H
      have c7b0 : (((rd_T65 l0 x10_1).f3) == a1)=false:=beq_eq_false_iff_ne.mpr c7
      have c7b1 : (((rd_T65 l0 x10_1).f3) != a1)=true:=bne_iff_ne.mpr c7
      have H':=Aside0.mk H
      clear H
      have p266 : 0 ≤ (x10_1 : Int):=of_decide_eq_true (by first | (with_reducible assumption) | assumption)
      have q266 : x10_1 < (l0.length : Int):=of_decide_eq_true (by first | (with_reducible assumption) | assumption)
      obtain ⟨ad266,e266,hx266_0,hx266_1,hx266_2,hx266_3,hx266_4,hx266_5⟩:=at_T65 HR0.out x10_1 p266 q266
      cases e266
      replace p266:=eq_true p266
      replace q266:=eq_true q266
      go_wp2
      repeat (go_quiet (fail);try go_wp2)
      go_roundg k1
      case measure=>have:=HK1.out;omega
      case rel=>exact ⟨(x9_1),(wrap64 (x10_1 + 1)),(by first | rfl | (simp;done) | (simp [*];done)),(by first | rfl | (simp;done) | (simp [*];done)),H',⟨by have:=HK1.out;omega⟩,by repeat (first | exact Drawn0.refl _ | apply Drawn0.step)⟩
    ·rw [if_neg c6] at H
     exact absurd H (by simp)
   ·rw [if_neg c5] at H
    have c5b0 : decide (x10_1 < (l0.length : Int))=false:=decide_eq_false c5
    clear c5
    by_cases c14 : x9_1 ≥ 0
    ·rw [if_pos c14] at H
     have c14b0 : decide (0 ≤ x9_1)=true:=decide_eq_true c14
     clear c14
     by_cases c15 : 0 ≤ x9_1
     ·rw [if_pos c15] at H
      have c15b0 : decide (0 ≤ x9_1)=true:=decide_eq_true c15
      clear c15
      by_cases c16 : x9_1 < (l0.length : Int)
      ·rw [if_pos c16] at H
       have c16b0 : decide (x9_1 < (l0.length : Int))=true:=decide_eq_true c16
       clear c16
       obtain ⟨bq17,hbq17⟩ : ∃ b_ : Bool,b_=((rd_T65 l0 x9_1).f5):=⟨_,rfl⟩
       replace H : (if bq17=true then (some (-1)) else (some x9_1))=some r:=by rw [← hbq17] at H;exact H
       have Nbq17:=Aside0.mk hbq17
       clear hbq17
       by_cases c18 : bq17=true
       ·subst c18
        have H1 : (some (-1))=some r:=by rw [if_pos rfl] at H;exact H
        clear H
        have H:=H1
        clear H1
        obtain rfl:=Option.some.inj H
        have p271 : 0 ≤ (x9_1 : Int):=of_decide_eq_true (by first | (with_reducible assumption) | assumption)
        have q271 : x9_1 < (l0.length : Int):=of_decide_eq_true (by first | (with_reducible assumption) | assumption)
        obtain ⟨ad271,e271,hx271_0,hx271_1,hx271_2,hx271_3,hx271_4,hx271_5⟩:=at_T65 HR0.out x9_1 p271 q271
        (try rw [← Nbq17.out] at hx271_5)
        cases e271
        replace p271:=eq_true p271
        replace q271:=eq_true q271
        go_wp2
        repeat (go_quiet (fail);try go_wp2)
        go_ret
        exact ⟨by first | rfl | (simp;done) | (simp [*];done),by repeat (first | exact Drawn0.refl _ | apply Drawn0.step)⟩
       ·replace c18:=Bool.eq_false_iff.mpr c18
        subst c18
        have H1 : (some x9_1)=some r:=by rw [if_neg (show ¬ (false=true) by decide)] at H;exact H
        clear H
        have H:=H1
        clear H1
        obtain rfl:=Option.some.inj H
        have p271 : 0 ≤ (x9_1 : Int):=of_decide_eq_true (by first | (with_reducible assumption) | assumption)
        have q271 : x9_1 < (l0.length : Int):=of_decide_eq_true (by first | (with_reducible assumption) | assumption)
        obtain ⟨ad271,e271,hx271_0,hx271_1,hx271_2,hx271_3,hx271_4,hx271_5⟩:=at_T65 HR0.out x9_1 p271 q271
        (try rw [← Nbq17.out] at hx271_5)
        cases e271
        replace p271:=eq_true p271
        replace q271:=eq_true q271
        go_wp2
        repeat (go_quiet (fail);try go_wp2)
        go_ret
        exact ⟨by first | rfl | (simp;done) | (simp [*];done),by repeat (first | exact Drawn0.refl _ | apply Drawn0.step)⟩
      ·rw [if_neg c16] at H
       exact absurd H (by simp)
     ·rw [if_neg c15] at H
      exact absurd H (by simp)
    ·rw [if_neg c14] at H
     have c14b0 : decide (0 ≤ x9_1)=false:=decide_eq_false c14
     clear c14
     obtain rfl:=Option.some.inj H
     go_wp2
     repeat (go_quiet (fail);try go_wp2)
     go_ret
     exact ⟨by first | rfl | (simp;done) | (simp [*];done),by repeat (first | exact Drawn0.refl _ | apply Drawn0.step)⟩
def R48_Current.f (k : Nat) (l0 : List (S65)) (a1 : Int) (a2 : Int) (a3 : Int) : Option (Int × Int × Bool × Int):=(R48_Error.f k l0 a1 a2 a3).bind fun t272=>(if t272=0 then ((R48_current.f k l0 a1 a2 a3).bind fun t273=>(if t273 < 0 then (some (0,0,false,0)) else (if 0 ≤ t273 then (if t273 < (l0.length : Int) then (some ((rd_T65 l0 t273).f0,(rd_T65 l0 t273).f4,true,0)) else (none)) else (none)))) else (some (0,0,false,t272)))
theorem R48_Current.mono : ∀ a0 a1 a2 a3 k,LeO (R48_Current.f k a0 a1 a2 a3) (R48_Current.f (k + 1) a0 a1 a2 a3):=by
 intro a0 a1 a2 a3 k
 unfold R48_Current.f
 repeat' first
   | (with_reducible exact R48_Error.mono _ _ _ _ _)
   | (with_reducible exact R48_current.mono _ _ _ _ _)
   | (with_reducible exact LeO.refl _)
   | (with_reducible exact LeO.none _)
   | (with_reducible refine LeO.ite ?_ ?_)
   | (with_reducible refine LeO.bind ?_ (fun _=>?_))
   | exact R48_Error.mono _ _ _ _ _
   | exact R48_current.mono _ _ _ _ _
   | exact LeO.none _
   | refine LeO.ite ?_ ?_
   | refine LeO.bind ?_ (fun _=>?_)
set_option maxHeartbeats 8000000 in
set_option maxRecDepth 100000 in
theorem R48_Current.calls (k : Nat) (A0 : Option Addr) (c0 : Nat) (l0 : List (S65)) (a1 : Int) (a2 : Int) (a3 : Int) (r1 : Int) (r2 : Int) (r3 : Bool) (r4 : Int) (w : World) (hr0 : Kd.C k65 w A0 l0.length l0) (hc0 : l0.length ≤ c0) (h : R48_Current.f k l0 a1 a2 a3=some (r1,r2,r3,r4)) :
  Calls Tryd.prog 48 #[.slice A0 l0.length c0,.int .i64 a1,.int .i64 a2,.int .i64 a3] w fun e w'=>e=.returned (.tuple #[.int .i64 r1,.int .i64 r2,.bool r3,.int .i64 r4]) ∧ Below w.heap.size w w':=by
 have HR0:=Aside0.mk hr0
 have HC0:=Aside0.mk hc0
 clear hr0 hc0
 have HB:=Aside0.mk (Below.refl w.heap.size w)
 have H : ((R48_Error.f k l0 a1 a2 a3).bind fun t272=>(if t272=0 then ((R48_current.f k l0 a1 a2 a3).bind fun t273=>(if t273 < 0 then (some (0,0,false,0)) else (if 0 ≤ t273 then (if t273 < (l0.length : Int) then (some ((rd_T65 l0 t273).f0,(rd_T65 l0 t273).f4,true,0)) else (none)) else (none)))) else (some (0,0,false,t272))))=some (r1,r2,r3,r4):=h
 clear h
 replace H:=Option.bind_eq_some_iff.mp H
 obtain ⟨t272,A50,H⟩:=H
 replace H : (if t272=0 then ((R48_current.f k l0 a1 a2 a3).bind fun t273=>(if t273 < 0 then (some (0,0,false,0)) else (if 0 ≤ t273 then (if t273 < (l0.length : Int) then (some ((rd_T65 l0 t273).f0,(rd_T65 l0 t273).f4,true,0)) else (none)) else (none)))) else (some (0,0,false,t272)))=some (r1,r2,r3,r4):=H
 have A5:=Aside0.mk A50
 clear A50
 by_cases c6 : t272=0
 ·rw [if_pos c6] at H
  have c6b0 : (t272 == 0)=true:=beq_iff_eq.mpr c6
  have c6b1 : (t272 != 0)=false:=bne_eq_false_iff_eq.mpr c6
  clear c6
  replace H:=Option.bind_eq_some_iff.mp H
  obtain ⟨t273,A70,H⟩:=H
  replace H : (if t273 < 0 then (some (0,0,false,0)) else (if 0 ≤ t273 then (if t273 < (l0.length : Int) then (some ((rd_T65 l0 t273).f0,(rd_T65 l0 t273).f4,true,0)) else (none)) else (none)))=some (r1,r2,r3,r4):=H
  have A7:=Aside0.mk A70
  clear A70
  by_cases c8 : t273 < 0
  ·rw [if_pos c8] at H
   have c8b0 : decide (t273 < 0)=true:=decide_eq_true c8
   clear c8
   simp only [Option.some.injEq,Prod.mk.injEq] at H
   obtain ⟨rfl,rfl,rfl,rfl⟩:=H
   go_enter Tryd.func48,Tryd.ntmps48
   go_wp2_with (first | (go_at_call 85;(with_reducible refine (R48_Error.calls k _ _ l0 a1 a2 a3 t272 _ ?side1 ?side2 A5.out).mono ?_);(case side1=>repeat (first | exact HR0.out | (with_reducible refine Kd.C_alloc ?_ _) | (with_reducible refine Kd.C_drewN ?_ _) | (with_reducible refine Kd.C_drew ?_)));(case side2=>exact HC0.out);rintro e w9 ⟨rfl,hb⟩;have n0_:=Aside0.mk (below_step (by repeat (first | (with_reducible first | exact HB.out | apply below_alloc | apply pw_below_drewN | apply below_drew1) | exact HB.out)) hb);clear HB;have HB:=n0_;clear n0_;(try clear hb);(try clear hb2);(try clear hk);(try clear hi)) | (go_at_call 86;(with_reducible refine (R48_current.calls k _ _ l0 a1 a2 a3 t273 _ ?side1 ?side2 A7.out).mono ?_);(case side1=>repeat (first | exact (Kd.C_below HR0.out HB.out) | (with_reducible refine Kd.C_alloc ?_ _) | (with_reducible refine Kd.C_drewN ?_ _) | (with_reducible refine Kd.C_drew ?_)));(case side2=>exact HC0.out);rintro e w' ⟨rfl,⟨nd,rfl⟩⟩;(try first | exact ⟨rfl,_,World.drewN_drewN _ _ _⟩ | exact ⟨rfl,_,Eq.trans (World.drewN_drewN _ _ _) (congrArg (World.drewN _) (Nat.add_assoc _ _ _))⟩)))
   repeat (go_quiet (first | (go_at_call 85;(with_reducible refine (R48_Error.calls k _ _ l0 a1 a2 a3 t272 _ ?side1 ?side2 A5.out).mono ?_);(case side1=>repeat (first | exact HR0.out | (with_reducible refine Kd.C_alloc ?_ _) | (with_reducible refine Kd.C_drewN ?_ _) | (with_reducible refine Kd.C_drew ?_)));(case side2=>exact HC0.out);rintro e w9 ⟨rfl,hb⟩;have n0_:=Aside0.mk (below_step (by repeat (first | (with_reducible first | exact HB.out | apply below_alloc | apply pw_below_drewN | apply below_drew1) | exact HB.out)) hb);clear HB;have HB:=n0_;clear n0_;(try clear hb);(try clear hb2);(try clear hk);(try clear hi)) | (go_at_call 86;(with_reducible refine (R48_current.calls k _ _ l0 a1 a2 a3 t273 _ ?side1 ?side2 A7.out).mono ?_);(case side1=>repeat (first | exact (Kd.C_below HR0.out HB.out) | (with_reducible refine Kd.C_alloc ?_ _) | (with_reducible refine Kd.C_drewN ?_ _) | (with_reducible refine Kd.C_drew ?_)));(case side2=>exact HC0.out);rintro e w' ⟨rfl,⟨nd,rfl⟩⟩;(try first | exact ⟨rfl,_,World.drewN_drewN _ _ _⟩ | exact ⟨rfl,_,Eq.trans (World.drewN_drewN _ _ _) (congrArg (World.drewN _) (Nat.add_assoc _ _ _))⟩)));try go_wp2_with (first | (go_at_call 85;(with_reducible refine (R48_Error.calls k _ _ l0 a1 a2 a3 t272 _ ?side1 ?side2 A5.out).mono ?_);(case side1=>repeat (first | exact HR0.out | (with_reducible refine Kd.C_alloc ?_ _) | (with_reducible refine Kd.C_drewN ?_ _) | (with_reducible refine Kd.C_drew ?_)));(case side2=>exact HC0.out);rintro e w9 ⟨rfl,hb⟩;have n0_:=Aside0.mk (below_step (by repeat (first | (with_reducible first | exact HB.out | apply below_alloc | apply pw_below_drewN | apply below_drew1) | exact HB.out)) hb);clear HB;have HB:=n0_;clear n0_;(try clear hb);(try clear hb2);(try clear hk);(try clear hi)) | (go_at_call 86;(with_reducible refine (R48_current.calls k _ _ l0 a1 a2 a3 t273 _ ?side1 ?side2 A7.out).mono ?_);(case side1=>repeat (first | exact (Kd.C_below HR0.out HB.out) | (with_reducible refine Kd.C_alloc ?_ _) | (with_reducible refine Kd.C_drewN ?_ _) | (with_reducible refine Kd.C_drew ?_)));(case side2=>exact HC0.out);rintro e w' ⟨rfl,⟨nd,rfl⟩⟩;(try first | exact ⟨rfl,_,World.drewN_drewN _ _ _⟩ | exact ⟨rfl,_,Eq.trans (World.drewN_drewN _ _ _) (congrArg (World.drewN _) (Nat.add_assoc _ _ _))⟩))))
   refine bodyPost_ret (results_list (rs:=[.tmp 8,.tmp 9,.tmp 10,.tmp 11]) rfl (by simp) (.tmp (.tmp (.tmp (.tmp .nil))))) rfl ?_
   exact ⟨by first | rfl | (simp [errW_none,errW_some] <;> rfl) | (simp [*,errW_none,errW_some] <;> rfl),by repeat (first | (with_reducible first | exact HB.out | apply below_alloc | apply pw_below_drewN | apply below_drew1) | exact HB.out)⟩
  ·rw [if_neg c8] at H
   have c8b0 : decide (t273 < 0)=false:=decide_eq_false c8
   clear c8
   by_cases c10 : 0 ≤ t273
   ·rw [if_pos c10] at H
    have c10b0 : decide (0 ≤ t273)=true:=decide_eq_true c10
    clear c10
    by_cases c11 : t273 < (l0.length : Int)
    ·rw [if_pos c11] at H
     have c11b0 : decide (t273 < (l0.length : Int))=true:=decide_eq_true c11
     clear c11
     simp only [Option.some.injEq,Prod.mk.injEq] at H
     obtain ⟨rfl,rfl,rfl,rfl⟩:=H
     go_enter Tryd.func48,Tryd.ntmps48
     go_wp2_with (first | (go_at_call 85;(with_reducible refine (R48_Error.calls k _ _ l0 a1 a2 a3 t272 _ ?side1 ?side2 A5.out).mono ?_);(case side1=>repeat (first | exact HR0.out | (with_reducible refine Kd.C_alloc ?_ _) | (with_reducible refine Kd.C_drewN ?_ _) | (with_reducible refine Kd.C_drew ?_)));(case side2=>exact HC0.out);rintro e w12 ⟨rfl,hb⟩;have n0_:=Aside0.mk (below_step (by repeat (first | (with_reducible first | exact HB.out | apply below_alloc | apply pw_below_drewN | apply below_drew1) | exact HB.out)) hb);clear HB;have HB:=n0_;clear n0_;(try clear hb);(try clear hb2);(try clear hk);(try clear hi)) | (go_at_call 86;(with_reducible refine (R48_current.calls k _ _ l0 a1 a2 a3 t273 _ ?side1 ?side2 A7.out).mono ?_);(case side1=>repeat (first | exact (Kd.C_below HR0.out HB.out) | (with_reducible refine Kd.C_alloc ?_ _) | (with_reducible refine Kd.C_drewN ?_ _) | (with_reducible refine Kd.C_drew ?_)));(case side2=>exact HC0.out);rintro e w' ⟨rfl,⟨nd,rfl⟩⟩;(try first | exact ⟨rfl,_,World.drewN_drewN _ _ _⟩ | exact ⟨rfl,_,Eq.trans (World.drewN_drewN _ _ _) (congrArg (World.drewN _) (Nat.add_assoc _ _ _))⟩);have p274 : 0 ≤ (t273 : Int):=of_decide_eq_true (by first | (with_reducible assumption) | assumption);have q274 : t273 < (l0.length : Int):=of_decide_eq_true (by first | (with_reducible assumption) | assumption);obtain ⟨ad274,e274,hx274_0,hx274_1,hx274_2,hx274_3,hx274_4,hx274_5⟩:=at_T65 HR0.out t273 p274 q274;cases e274;replace hx274_0:=(HB.out.cell (World.block_lt_of_cell? w _ hx274_0)).trans hx274_0;replace hx274_1:=(HB.out.cell (World.block_lt_of_cell? w _ hx274_1)).trans hx274_1;replace hx274_2:=(HB.out.cell (World.block_lt_of_cell? w _ hx274_2)).trans hx274_2;replace hx274_3:=(HB.out.cell (World.block_lt_of_cell? w _ hx274_3)).trans hx274_3;replace hx274_4:=(HB.out.cell (World.block_lt_of_cell? w _ hx274_4)).trans hx274_4;replace hx274_5:=(HB.out.cell (World.block_lt_of_cell? w _ hx274_5)).trans hx274_5;replace p274:=eq_true p274;replace q274:=eq_true q274;have p275 : 0 ≤ (t273 : Int):=of_decide_eq_true (by first | (with_reducible assumption) | assumption);have q275 : t273 < (l0.length : Int):=of_decide_eq_true (by first | (with_reducible assumption) | assumption);obtain ⟨ad275,e275,hx275_0,hx275_1,hx275_2,hx275_3,hx275_4,hx275_5⟩:=at_T65 HR0.out t273 p275 q275;obtain rfl : ad274=ad275:=(by injection e275);replace hx275_0:=(HB.out.cell (World.block_lt_of_cell? w _ hx275_0)).trans hx275_0;replace hx275_1:=(HB.out.cell (World.block_lt_of_cell? w _ hx275_1)).trans hx275_1;replace hx275_2:=(HB.out.cell (World.block_lt_of_cell? w _ hx275_2)).trans hx275_2;replace hx275_3:=(HB.out.cell (World.block_lt_of_cell? w _ hx275_3)).trans hx275_3;replace hx275_4:=(HB.out.cell (World.block_lt_of_cell? w _ hx275_4)).trans hx275_4;replace hx275_5:=(HB.out.cell (World.block_lt_of_cell? w _ hx275_5)).trans hx275_5;replace p275:=eq_true p275;replace q275:=eq_true q275))
     repeat (go_quiet (first | (go_at_call 85;(with_reducible refine (R48_Error.calls k _ _ l0 a1 a2 a3 t272 _ ?side1 ?side2 A5.out).mono ?_);(case side1=>repeat (first | exact HR0.out | (with_reducible refine Kd.C_alloc ?_ _) | (with_reducible refine Kd.C_drewN ?_ _) | (with_reducible refine Kd.C_drew ?_)));(case side2=>exact HC0.out);rintro e w12 ⟨rfl,hb⟩;have n0_:=Aside0.mk (below_step (by repeat (first | (with_reducible first | exact HB.out | apply below_alloc | apply pw_below_drewN | apply below_drew1) | exact HB.out)) hb);clear HB;have HB:=n0_;clear n0_;(try clear hb);(try clear hb2);(try clear hk);(try clear hi)) | (go_at_call 86;(with_reducible refine (R48_current.calls k _ _ l0 a1 a2 a3 t273 _ ?side1 ?side2 A7.out).mono ?_);(case side1=>repeat (first | exact (Kd.C_below HR0.out HB.out) | (with_reducible refine Kd.C_alloc ?_ _) | (with_reducible refine Kd.C_drewN ?_ _) | (with_reducible refine Kd.C_drew ?_)));(case side2=>exact HC0.out);rintro e w' ⟨rfl,⟨nd,rfl⟩⟩;(try first | exact ⟨rfl,_,World.drewN_drewN _ _ _⟩ | exact ⟨rfl,_,Eq.trans (World.drewN_drewN _ _ _) (congrArg (World.drewN _) (Nat.add_assoc _ _ _))⟩);have p274 : 0 ≤ (t273 : Int):=of_decide_eq_true (by first | (with_reducible assumption) | assumption);have q274 : t273 < (l0.length : Int):=of_decide_eq_true (by first | (with_reducible assumption) | assumption);obtain ⟨ad274,e274,hx274_0,hx274_1,hx274_2,hx274_3,hx274_4,hx274_5⟩:=at_T65 HR0.out t273 p274 q274;cases e274;replace hx274_0:=(HB.out.cell (World.block_lt_of_cell? w _ hx274_0)).trans hx274_0;replace hx274_1:=(HB.out.cell (World.block_lt_of_cell? w _ hx274_1)).trans hx274_1;replace hx274_2:=(HB.out.cell (World.block_lt_of_cell? w _ hx274_2)).trans hx274_2;replace hx274_3:=(HB.out.cell (World.block_lt_of_cell? w _ hx274_3)).trans hx274_3;replace hx274_4:=(HB.out.cell (World.block_lt_of_cell? w _ hx274_4)).trans hx274_4;replace hx274_5:=(HB.out.cell (World.block_lt_of_cell? w _ hx274_5)).trans hx274_5;replace p274:=eq_true p274;replace q274:=eq_true q274;have p275 : 0 ≤ (t273 : Int):=of_decide_eq_true (by first | (with_reducible assumption) | assumption);have q275 : t273 < (l0.length : Int):=of_decide_eq_true (by first | (with_reducible assumption) | assumption);obtain ⟨ad275,e275,hx275_0,hx275_1,hx275_2,hx275_3,hx275_4,hx275_5⟩:=at_T65 HR0.out t273 p275 q275;obtain rfl : ad274=ad275:=(by injection e275);replace hx275_0:=(HB.out.cell (World.block_lt_of_cell? w _ hx275_0)).trans hx275_0;replace hx275_1:=(HB.out.cell (World.block_lt_of_cell? w _ hx275_1)).trans hx275_1;replace hx275_2:=(HB.out.cell (World.block_lt_of_cell? w _ hx275_2)).trans hx275_2;replace hx275_3:=(HB.out.cell (World.block_lt_of_cell? w _ hx275_3)).trans hx275_3;replace hx275_4:=(HB.out.cell (World.block_lt_of_cell? w _ hx275_4)).trans hx275_4;replace hx275_5:=(HB.out.cell (World.block_lt_of_cell? w _ hx275_5)).trans hx275_5;replace p275:=eq_true p275;replace q275:=eq_true q275));try go_wp2_with (first | (go_at_call 85;(with_reducible refine (R48_Error.calls k _ _ l0 a1 a2 a3 t272 _ ?side1 ?side2 A5.out).mono ?_);(case side1=>repeat (first | exact HR0.out | (with_reducible refine Kd.C_alloc ?_ _) | (with_reducible refine Kd.C_drewN ?_ _) | (with_reducible refine Kd.C_drew ?_)));(case side2=>exact HC0.out);rintro e w12 ⟨rfl,hb⟩;have n0_:=Aside0.mk (below_step (by repeat (first | (with_reducible first | exact HB.out | apply below_alloc | apply pw_below_drewN | apply below_drew1) | exact HB.out)) hb);clear HB;have HB:=n0_;clear n0_;(try clear hb);(try clear hb2);(try clear hk);(try clear hi)) | (go_at_call 86;(with_reducible refine (R48_current.calls k _ _ l0 a1 a2 a3 t273 _ ?side1 ?side2 A7.out).mono ?_);(case side1=>repeat (first | exact (Kd.C_below HR0.out HB.out) | (with_reducible refine Kd.C_alloc ?_ _) | (with_reducible refine Kd.C_drewN ?_ _) | (with_reducible refine Kd.C_drew ?_)));(case side2=>exact HC0.out);rintro e w' ⟨rfl,⟨nd,rfl⟩⟩;(try first | exact ⟨rfl,_,World.drewN_drewN _ _ _⟩ | exact ⟨rfl,_,Eq.trans (World.drewN_drewN _ _ _) (congrArg (World.drewN _) (Nat.add_assoc _ _ _))⟩);have p274 : 0 ≤ (t273 : Int):=of_decide_eq_true (by first | (with_reducible assumption) | assumption);have q274 : t273 < (l0.length : Int):=of_decide_eq_true (by first | (with_reducible assumption) | assumption);obtain ⟨ad274,e274,hx274_0,hx274_1,hx274_2,hx274_3,hx274_4,hx274_5⟩:=at_T65 HR0.out t273 p274 q274;cases e274;replace hx274_0:=(HB.out.cell (World.block_lt_of_cell? w _ hx274_0)).trans hx274_0;replace hx274_1:=(HB.out.cell (World.block_lt_of_cell? w _ hx274_1)).trans hx274_1;replace hx274_2:=(HB.out.cell (World.block_lt_of_cell? w _ hx274_2)).trans hx274_2;replace hx274_3:=(HB.out.cell (World.block_lt_of_cell? w _ hx274_3)).trans hx274_3;replace hx274_4:=(HB.out.cell (World.block_lt_of_cell? w _ hx274_4)).trans hx274_4;replace hx274_5:=(HB.out.cell (World.block_lt_of_cell? w _ hx274_5)).trans hx274_5;replace p274:=eq_true p274;replace q274:=eq_true q274;have p275 : 0 ≤ (t273 : Int):=of_decide_eq_true (by first | (with_reducible assumption) | assumption);have q275 : t273 < (l0.length : Int):=of_decide_eq_true (by first | (with_reducible assumption) | assumption);obtain ⟨ad275,e275,hx275_0,hx275_1,hx275_2,hx275_3,hx275_4,hx275_5⟩:=at_T65 HR0.out t273 p275 q275;obtain rfl : ad274=ad275:=(by injection e275);replace hx275_0:=(HB.out.cell (World.block_lt_of_cell? w _ hx275_0)).trans hx275_0;replace hx275_1:=(HB.out.cell (World.block_lt_of_cell? w _ hx275_1)).trans hx275_1;replace hx275_2:=(HB.out.cell (World.block_lt_of_cell? w _ hx275_2)).trans hx275_2;replace hx275_3:=(HB.out.cell (World.block_lt_of_cell? w _ hx275_3)).trans hx275_3;replace hx275_4:=(HB.out.cell (World.block_lt_of_cell? w _ hx275_4)).trans hx275_4;replace hx275_5:=(HB.out.cell (World.block_lt_of_cell? w _ hx275_5)).trans hx275_5;replace p275:=eq_true p275;replace q275:=eq_true q275)))
     refine bodyPost_ret (results_list (rs:=[.tmp 8,.tmp 9,.tmp 10,.tmp 11]) rfl (by simp) (.tmp (.tmp (.tmp (.tmp .nil))))) rfl ?_
     exact ⟨by first | rfl | (simp [errW_none,errW_some] <;> rfl) | (simp [*,errW_none,errW_some] <;> rfl),by repeat (first | (with_reducible first | exact HB.out | apply below_alloc | apply pw_below_drewN | apply below_drew1) | exact HB.out)⟩
    ·rw [if_neg c11] at H
     exact absurd H (by simp)
   ·rw [if_neg c10] at H
    exact absurd H (by simp)
 ·rw [if_neg c6] at H
  have c6b0 : (t272 == 0)=false:=beq_eq_false_iff_ne.mpr c6
  have c6b1 : (t272 != 0)=true:=bne_iff_ne.mpr c6
  simp only [Option.some.injEq,Prod.mk.injEq] at H
  obtain ⟨rfl,rfl,rfl,rfl⟩:=H
  go_enter Tryd.func48,Tryd.ntmps48
  go_wp2_with (first | (go_at_call 85;(with_reducible refine (R48_Error.calls k _ _ l0 a1 a2 a3 t272 _ ?side1 ?side2 A5.out).mono ?_);(case side1=>repeat (first | exact HR0.out | (with_reducible refine Kd.C_alloc ?_ _) | (with_reducible refine Kd.C_drewN ?_ _) | (with_reducible refine Kd.C_drew ?_)));(case side2=>exact HC0.out);rintro e w13 ⟨rfl,hb⟩;have n0_:=Aside0.mk (below_step (by repeat (first | (with_reducible first | exact HB.out | apply below_alloc | apply pw_below_drewN | apply below_drew1) | exact HB.out)) hb);clear HB;have HB:=n0_;clear n0_;(try clear hb);(try clear hb2);(try clear hk);(try clear hi)))
  repeat (go_quiet (first | (go_at_call 85;(with_reducible refine (R48_Error.calls k _ _ l0 a1 a2 a3 t272 _ ?side1 ?side2 A5.out).mono ?_);(case side1=>repeat (first | exact HR0.out | (with_reducible refine Kd.C_alloc ?_ _) | (with_reducible refine Kd.C_drewN ?_ _) | (with_reducible refine Kd.C_drew ?_)));(case side2=>exact HC0.out);rintro e w13 ⟨rfl,hb⟩;have n0_:=Aside0.mk (below_step (by repeat (first | (with_reducible first | exact HB.out | apply below_alloc | apply pw_below_drewN | apply below_drew1) | exact HB.out)) hb);clear HB;have HB:=n0_;clear n0_;(try clear hb);(try clear hb2);(try clear hk);(try clear hi)));try go_wp2_with (first | (go_at_call 85;(with_reducible refine (R48_Error.calls k _ _ l0 a1 a2 a3 t272 _ ?side1 ?side2 A5.out).mono ?_);(case side1=>repeat (first | exact HR0.out | (with_reducible refine Kd.C_alloc ?_ _) | (with_reducible refine Kd.C_drewN ?_ _) | (with_reducible refine Kd.C_drew ?_)));(case side2=>exact HC0.out);rintro e w13 ⟨rfl,hb⟩;have n0_:=Aside0.mk (below_step (by repeat (first | (with_reducible first | exact HB.out | apply below_alloc | apply pw_below_drewN | apply below_drew1) | exact HB.out)) hb);clear HB;have HB:=n0_;clear n0_;(try clear hb);(try clear hb2);(try clear hk);(try clear hi))))
  refine bodyPost_ret (results_list (rs:=[.tmp 8,.tmp 9,.tmp 10,.tmp 11]) rfl (by simp) (.tmp (.tmp (.tmp (.tmp .nil))))) rfl ?_
  exact ⟨by first | rfl | (simp [errW_none,errW_some] <;> rfl) | (simp [*,errW_none,errW_some] <;> rfl),by repeat (first | (with_reducible first | exact HB.out | apply below_alloc | apply pw_below_drewN | apply below_drew1) | exact HB.out)⟩
end Go.Proofs.YtjbcfdgnafmbkaaDoor.PBig
end
section
namespace Go.Proofs.YtjbcfdgnafmbkaaDoor.PBig
open Go.RowKit Go.Proofs.YtjbcfdgnafmbkaaDoorW.PrintWords Go.Proofs.YtjbcfdgnafmbkaaDoorW.PrintLast Go.Proofs.YtjbcfdgnafmbkaaDoorW.PrintMore
def pbigx11b0 : Array Bool:=#[false,false,false,false,false,false,false,false,false,false,false,false,false]
def pbigx11b1 : Array Bool:=#[true,false,false,false,false,false,false,false,false,false,false,false,false]
def pbigx11b2 : Array Bool:=#[true,true,false,false,false,false,false,false,false,false,false,false,false]
def pbigx11b3 : Array Bool:=#[true,true,true,false,false,false,false,false,false,false,false,false,false]
def pbigx11b4 : Array Bool:=#[true,true,true,true,false,false,false,false,false,false,false,false,false]
def pbigx11b5 : Array Bool:=#[true,true,true,true,true,false,false,false,false,false,false,false,false]
def pbigx11b6 : Array Bool:=#[true,true,true,true,true,true,false,false,false,false,false,false,false]
def pbigx11b7 : Array Bool:=#[true,true,true,true,true,true,true,false,false,false,false,false,false]
def pbigx11b8 : Array Bool:=#[true,true,true,true,true,true,true,true,true,false,false,false,false]
def pbigx11b9 : Array Bool:=#[true,true,true,true,true,true,true,true,true,true,false,false,false]
def pbigx11b10 : Array Bool:=#[true,true,true,true,true,true,true,true,true,true,true,false,false]
def pbigx11b11 : Array Bool:=#[true,true,true,true,true,true,true,true,true,true,true,true,false]
def pbigx11b12 : Array Bool:=#[true,true,true,true,true,true,true,true,true,true,true,true,true]
def pbigx11b13 : Array Bool:=#[true,true,true,true,true,true,true,false,true,false,false,false,false]
theorem pbigx11lsb {α : Type} (l : List α) (i : Nat) (x : α) : l.toArray.setIfInBounds i x=(l.set i x).toArray:=List.setIfInBounds_toArray ..
theorem pbigx11lsz {α : Type} {a b : α} {l : List α} : (b :: l).set 0 a=a :: l:=rfl
theorem pbigx11lss {α : Type} {a b : α} {l : List α} {i : Nat} : (b :: l).set (i + 1) a=b :: l.set i a:=rfl
attribute [local go_sem] max2_int min2_int max_two min_two max_three min_three max_four min_four
set_option linter.unusedVariables false
set_option linter.unusedSimpArgs false
def R48_Accepts.f (k : Nat) (l0 : List (S65)) (a1 : Int) (l2 : List Int) (a3_0 : Int) (a3_1 : Int) (a4 : Int) (a5 : Int) : Option (Int × Bool × Int):=(R48_Error.f k l0 a1 a4 a5).bind fun t342=>(if t342=0 then ((R48_current.f k l0 a1 a4 a5).bind fun t343=>(if t343 < 0 then (some (0,false,0)) else (if 0 ≤ t343 then (if t343 < (l0.length : Int) then ((R11_Verify.f k ((rd_T65 l0 t343).f4) l2 a3_0 a3_1).bind fun t345=>(if t345=true then (some ((rd_T65 l0 t343).f0,true,0)) else (some (0,false,0)))) else (none)) else (none)))) else (some (0,false,t342)))
theorem R48_Accepts.mono : ∀ a0 a1 a2 a3 a4 a5 a6 k,LeO (R48_Accepts.f k a0 a1 a2 a3 a4 a5 a6) (R48_Accepts.f (k + 1) a0 a1 a2 a3 a4 a5 a6):=by
 intro a0 a1 a2 a3 a4 a5 a6 k
 unfold R48_Accepts.f
 repeat' first
   | (with_reducible exact R11_Verify.mono _ _ _ _ _)
   | (with_reducible exact R48_Error.mono _ _ _ _ _)
   | (with_reducible exact R48_current.mono _ _ _ _ _)
   | (with_reducible exact LeO.refl _)
   | (with_reducible exact LeO.none _)
   | (with_reducible refine LeO.ite ?_ ?_)
   | (with_reducible refine LeO.bind ?_ (fun _=>?_))
   | exact R11_Verify.mono _ _ _ _ _
   | exact R48_Error.mono _ _ _ _ _
   | exact R48_current.mono _ _ _ _ _
   | exact LeO.none _
   | refine LeO.ite ?_ ?_
   | refine LeO.bind ?_ (fun _=>?_)
def R48_Accepts.T5 : Bool × List (List Nat × List Nat):=(true,[([],[]),([0],[0]),([1],[1]),([2],[2]),([2],[2]),([3,4,2],[2,3,4]),([5,2],[2,5]),([6,2],[2,6]),([2],[2]),([2],[2]),([7,8,9,2,2],[2,7,8,9]),([10,2],[2,10]),([2,11],[2,11])])
def R48_Accepts.B5 : List Nat:=[0,1,3,7,7,31,63,127,7,7,1023,2047,4095]
theorem R48_Accepts.tab5 : rtab .any (opsOf Tryd.f50 5)=R48_Accepts.T5:=by kernel_rfl
theorem R48_Accepts.bits5 : waitsOk R48_Accepts.T5.2 R48_Accepts.B5=true:=by kernel_rfl
set_option maxHeartbeats 8000000 in
set_option maxRecDepth 100000 in
theorem R48_Accepts.calls (k : Nat) (A0 : Option Addr) (c0 : Nat) (l0 : List (S65)) (a1 : Int) (A2 : Option Addr) (c2 : Nat) (l2 : List Int) (a3_0 : Int) (a3_1 : Int) (a4 : Int) (a5 : Int) (r1 : Int) (r2 : Bool) (r3 : Int) (w : World) (hr0 : Kd.C k65 w A0 l0.length l0) (hc0 : l0.length ≤ c0) (hr2 : Kd.C (Kd.int .u8) w A2 l2.length l2) (hc2 : l2.length ≤ c2) (h : R48_Accepts.f k l0 a1 l2 a3_0 a3_1 a4 a5=some (r1,r2,r3)) :
  Calls Tryd.prog 50 #[.slice A0 l0.length c0,.int .i64 a1,.slice A2 l2.length c2,.agg #[.int .i64 a3_0,.int .i64 a3_1],.int .i64 a4,.int .i64 a5] w fun e w'=>e=.returned (.tuple #[.int .i64 r1,.bool r2,.int .i64 r3]) ∧ Below w.heap.size w w':=by
 have hu73:=Tryd.underlying73
 have HR0:=Aside0.mk hr0
 have HC0:=Aside0.mk hc0
 clear hr0 hc0
 have HR2:=Aside0.mk hr2
 have HC2:=Aside0.mk hc2
 clear hr2 hc2
 have HB:=Aside0.mk (Below.refl w.heap.size w)
 have H : ((R48_Error.f k l0 a1 a4 a5).bind fun t342=>(if t342=0 then ((R48_current.f k l0 a1 a4 a5).bind fun t343=>(if t343 < 0 then (some (0,false,0)) else (if 0 ≤ t343 then (if t343 < (l0.length : Int) then ((R11_Verify.f k ((rd_T65 l0 t343).f4) l2 a3_0 a3_1).bind fun t345=>(if t345=true then (some ((rd_T65 l0 t343).f0,true,0)) else (some (0,false,0)))) else (none)) else (none)))) else (some (0,false,t342))))=some (r1,r2,r3):=h
 clear h
 replace H:=Option.bind_eq_some_iff.mp H
 obtain ⟨t342,A70,H⟩:=H
 replace H : (if t342=0 then ((R48_current.f k l0 a1 a4 a5).bind fun t343=>(if t343 < 0 then (some (0,false,0)) else (if 0 ≤ t343 then (if t343 < (l0.length : Int) then ((R11_Verify.f k ((rd_T65 l0 t343).f4) l2 a3_0 a3_1).bind fun t345=>(if t345=true then (some ((rd_T65 l0 t343).f0,true,0)) else (some (0,false,0)))) else (none)) else (none)))) else (some (0,false,t342)))=some (r1,r2,r3):=H
 have A7:=Aside0.mk A70
 clear A70
 by_cases c8 : t342=0
 ·rw [if_pos c8] at H
  have c8b0 : (t342 == 0)=true:=beq_iff_eq.mpr c8
  have c8b1 : (t342 != 0)=false:=bne_eq_false_iff_eq.mpr c8
  clear c8
  replace H:=Option.bind_eq_some_iff.mp H
  obtain ⟨t343,A90,H⟩:=H
  replace H : (if t343 < 0 then (some (0,false,0)) else (if 0 ≤ t343 then (if t343 < (l0.length : Int) then ((R11_Verify.f k ((rd_T65 l0 t343).f4) l2 a3_0 a3_1).bind fun t345=>(if t345=true then (some ((rd_T65 l0 t343).f0,true,0)) else (some (0,false,0)))) else (none)) else (none)))=some (r1,r2,r3):=H
  have A9:=Aside0.mk A90
  clear A90
  by_cases c10 : t343 < 0
  ·rw [if_pos c10] at H
   have c10b0 : decide (t343 < 0)=true:=decide_eq_true c10
   clear c10
   simp only [Option.some.injEq,Prod.mk.injEq] at H
   obtain ⟨rfl,rfl,rfl⟩:=H
   go_enter Tryd.func50,Tryd.ntmps50
   try go_wp2_with (first | ((with_reducible refine gate_dst (N:=9) rfl ?_);refine box_event ?hg (N:=9) ?hd (cs:=#[.int .i64 a3_0,.int .i64 a3_1]) (t:=73) ?hr ?_;(case hd=>rfl);(case hg=>rfl);(case hr=>first | (go_simp;done) | (go_simp;rfl));intro gb341 hg w11 hbox hb;have n0_:=Aside0.mk (below_step (by repeat (first | (with_reducible first | exact HB.out | apply below_alloc | apply pw_below_drewN | apply below_drew1) | exact HB.out)) hb);have n1_:=Aside0.mk (hbox);have n2_:=Aside0.mk ((by rw [hg];exact (below_size (by repeat (first | (with_reducible first | exact HB.out | apply below_alloc | apply pw_below_drewN | apply below_drew1) | exact HB.out))) : w.heap.size ≤ gb341));have n3_:=Aside0.mk ((by rw [hg];exact (below_size (by repeat (first | (with_reducible first | exact HB.out | apply below_alloc | apply pw_below_drewN | apply below_drew1) | exact HB.out))) : w.heap.size ≤ gb341));clear HB;have HB:=n0_;have BK341:=n1_;have GW341:=n2_;have GE341:=n3_;clear n0_ n1_ n2_ n3_;clear hb hbox hg) | ((with_reducible refine gate_callee (f:=85) rfl ?_);refine goesL_ (some 21) rfl rfl Tryd.func85 (by kernel_rfl) rfl #[.slice A0 l0.length c0,.int .i64 a1,.int .i64 a4,.int .i64 a5] rfl (by (try simp only [List.map_toArray,List.map_cons,List.map_nil]);first | done | rfl | (simp only [List.length_drop,List.length_take];rfl)) ?_;(with_reducible refine (R48_Error.calls k _ _ l0 a1 a4 a5 t342 _ ?side1 ?side2 A7.out).mono ?_);(case side1=>repeat (first | exact (Kd.C_below HR0.out HB.out) | (with_reducible refine Kd.C_alloc ?_ _) | (with_reducible refine Kd.C_drewN ?_ _) | (with_reducible refine Kd.C_drew ?_)));(case side2=>exact HC0.out);rintro e w12 ⟨rfl,hb⟩;refine ⟨_,rfl,?_⟩;have n0_:=Aside0.mk (blk_below (g:=gb341) (o:=.cells #[.int .i64 a3_0,.int .i64 a3_1] 73 (0,0)) (by (with_reducible repeat (first | refine blk_drewN ?_ _ | refine blk_drew ?_ | refine blk_alloc ?_ _));exact BK341.out) hb);have n1_:=Aside0.mk (below_step (by repeat (first | (with_reducible first | exact HB.out | apply below_alloc | apply pw_below_drewN | apply below_drew1 | refine below_set ?_ GE341.out) | exact HB.out)) hb);clear BK341;clear HB;have BK341:=n0_;have HB:=n1_;clear n0_ n1_;(try clear hb);(try clear hb2);(try clear hk);(try clear hi)) | ((with_reducible refine gate_callee (f:=86) rfl ?_);refine goesL_ (some 29) rfl rfl Tryd.func86 (by kernel_rfl) rfl #[.slice A0 l0.length c0,.int .i64 a1,.int .i64 a4,.int .i64 a5] rfl (by (try simp only [List.map_toArray,List.map_cons,List.map_nil]);first | done | rfl | (simp only [List.length_drop,List.length_take];rfl)) ?_;(with_reducible refine (R48_current.calls k _ _ l0 a1 a4 a5 t343 _ ?side1 ?side2 A9.out).mono ?_);(case side1=>repeat (first | exact (Kd.C_below HR0.out HB.out) | (with_reducible refine Kd.C_alloc ?_ _) | (with_reducible refine Kd.C_drewN ?_ _) | (with_reducible refine Kd.C_drew ?_)));(case side2=>exact HC0.out);rintro e w' ⟨rfl,⟨nd,rfl⟩⟩;refine ⟨_,rfl,?_⟩))
   (try (rw [drewN_self w12];generalize hq_ : World.drewN w12 _=w12;have n0_ : Aside0 (w12.heap[gb341]?=some (.cells #[.int .i64 a3_0,.int .i64 a3_1] 73 (0,0))):=⟨by rw [← hq_];exact (by (with_reducible repeat (first | refine blk_drewN ?_ _ | refine blk_drew ?_ | refine blk_alloc ?_ _));exact BK341.out)⟩;have n1_ : Aside0 (Below w.heap.size w w12):=⟨by rw [← hq_];exact (by repeat (first | (with_reducible first | exact HB.out | apply below_alloc | apply pw_below_drewN | apply below_drew1 | refine below_set ?_ GE341.out) | exact HB.out))⟩;clear BK341 HB hq_;have BK341:=n0_;have HB:=n1_;clear n0_ n1_))
   have n0_:=Aside0.mk (blk_drew BK341.out)
   have n1_:=Aside0.mk (below_drew1 HB.out)
   clear BK341
   clear HB
   have BK341:=n0_
   have HB:=n1_
   clear n0_ n1_
   refine start_ (n:=13) (S:=fun w'=>True) (ds:=[]) pbigx11b0 (by kernel_rfl) rfl rfl trivial (fun hHeld=>?_);refine with_tabW R48_Accepts.tab5 R48_Accepts.bits5 (fun HT_ HW_=>?_)
   generalize w12.drew=w13 at BK341 HB hHeld ⊢
   refine pure_ (i:=0) (N:=some 30) (v:=?_) (a':=?_) pbigx11b1 rfl rfl (any_of HT_.out (by kernel_rfl)) (fun _ _ _ h=>h) (Or.inl ⟨by rfl,?_⟩) ?_ ?_
   rotate_left
   ·intro w'
    go_simp
    with_reducible rfl
   rotate_left
   ·simp only [Act.put,pbigx11lsb,pbigx11lsz,pbigx11lss,i64_w,i32_w]
    rfl
   refine pure_ (i:=1) (N:=some 31) (v:=?_) (a':=?_) pbigx11b2 rfl rfl (any_of HT_.out (by kernel_rfl)) (fun _ _ _ h=>h) (Or.inl ⟨by rfl,?_⟩) ?_ ?_
   rotate_left
   ·intro w'
    go_simp
    with_reducible rfl
   rotate_left
   ·simp only [Act.put,pbigx11lsb,pbigx11lsz,pbigx11lss,i64_w,i32_w]
    rfl
   refine pure_ (i:=2) (N:=some 32) (v:=?_) (a':=?_) pbigx11b3 rfl rfl (any_of HT_.out (by kernel_rfl)) (fun _ _ _ h=>h) (Or.inl ⟨by rfl,?_⟩) ?_ ?_
   rotate_left
   ·intro w'
    go_simp
    with_reducible rfl
   rotate_left
   ·simp only [Act.put,pbigx11lsb,pbigx11lsz,pbigx11lss,i64_w,i32_w]
    rfl
   refine pure_ (i:=3) (N:=some 33) (v:=undef) (a':=?_) pbigx11b4 rfl rfl (any_of HT_.out (by kernel_rfl)) (fun _ _ _ h=>h) (Or.inr ⟨by rfl,rfl⟩) ?_ ?_
   rotate_left
   ·simp only [Act.put,pbigx11lsb,pbigx11lsz,pbigx11lss,i64_w,i32_w]
    rfl
   refine pure_ (i:=4) (N:=some 34) (v:=undef) (a':=?_) pbigx11b5 rfl rfl (any_of HT_.out (by kernel_rfl)) (fun _ _ _ h=>h) (Or.inr ⟨by rfl,rfl⟩) ?_ ?_
   rotate_left
   ·simp only [Act.put,pbigx11lsb,pbigx11lsz,pbigx11lss,i64_w,i32_w]
    rfl
   refine pure_ (i:=5) (N:=some 35) (v:=undef) (a':=?_) pbigx11b6 rfl rfl (any_of HT_.out (by kernel_rfl)) (fun _ _ _ h=>h) (Or.inr ⟨by rfl,rfl⟩) ?_ ?_
   rotate_left
   ·simp only [Act.put,pbigx11lsb,pbigx11lsz,pbigx11lss,i64_w,i32_w]
    rfl
   refine pure_ (i:=6) (N:=some 36) (v:=undef) (a':=?_) pbigx11b7 rfl rfl (any_of HT_.out (by kernel_rfl)) (fun _ _ _ h=>h) (Or.inr ⟨by rfl,rfl⟩) ?_ ?_
   rotate_left
   ·simp only [Act.put,pbigx11lsb,pbigx11lsz,pbigx11lss,i64_w,i32_w]
    rfl
   refine pure_ (i:=7) (N:=some 37) (v:=undef) (a':=?_) #[true,true,true,true,true,true,true,true,false,false,false,false,false] rfl rfl (any_of HT_.out (by kernel_rfl)) (fun _ _ _ h=>h) (Or.inr ⟨by rfl,rfl⟩) ?_ ?_
   rotate_left
   ·simp only [Act.put,pbigx11lsb,pbigx11lsz,pbigx11lss,i64_w,i32_w]
    rfl
   refine pure_ (i:=8) (N:=some 38) (v:=undef) (a':=?_) pbigx11b8 rfl rfl (any_of HT_.out (by kernel_rfl)) (fun _ _ _ h=>h) (Or.inr ⟨by rfl,rfl⟩) ?_ ?_
   rotate_left
   ·simp only [Act.put,pbigx11lsb,pbigx11lsz,pbigx11lss,i64_w,i32_w]
    rfl
   refine pure_ (i:=9) (N:=some 39) (v:=undef) (a':=?_) pbigx11b9 rfl rfl (any_of HT_.out (by kernel_rfl)) (fun _ _ _ h=>h) (Or.inr ⟨by rfl,rfl⟩) ?_ ?_
   rotate_left
   ·simp only [Act.put,pbigx11lsb,pbigx11lsz,pbigx11lss,i64_w,i32_w]
    rfl
   refine pure_ (i:=10) (N:=some 40) (v:=undef) (a':=?_) pbigx11b10 rfl rfl (any_of HT_.out (by kernel_rfl)) (fun _ _ _ h=>h) (Or.inr ⟨by rfl,rfl⟩) ?_ ?_
   rotate_left
   ·simp only [Act.put,pbigx11lsb,pbigx11lsz,pbigx11lss,i64_w,i32_w]
    rfl
   refine pure_ (i:=11) (N:=some 41) (v:=undef) (a':=?_) pbigx11b11 rfl rfl (any_of HT_.out (by kernel_rfl)) (fun _ _ _ h=>h) (Or.inr ⟨by rfl,rfl⟩) ?_ ?_
   rotate_left
   ·simp only [Act.put,pbigx11lsb,pbigx11lsz,pbigx11lss,i64_w,i32_w]
    rfl
   refine pure_ (i:=12) (N:=some 42) (v:=?_) (a':=?_) pbigx11b12 rfl rfl (any_of HT_.out (by kernel_rfl)) (fun _ _ _ h=>h) (Or.inl ⟨by rfl,?_⟩) ?_ ?_
   rotate_left
   ·intro w'
    go_simp
    with_reducible rfl
   rotate_left
   ·simp only [Act.put,pbigx11lsb,pbigx11lsz,pbigx11lss,i64_w,i32_w]
    rfl
   refine done_ (done_of HT_.out (by kernel_rfl)) ?_
   try go_wp2
   go_ret3
   exact ⟨by first | rfl | (simp [errW_none,errW_some] <;> rfl) | (simp [*,errW_none,errW_some] <;> rfl),by repeat (first | (with_reducible first | exact HB.out | apply below_alloc | apply pw_below_drewN | apply below_drew1 | refine below_set ?_ GE341.out) | exact HB.out)⟩
  ·rw [if_neg c10] at H
   have c10b0 : decide (t343 < 0)=false:=decide_eq_false c10
   clear c10
   by_cases c14 : 0 ≤ t343
   ·rw [if_pos c14] at H
    have c14b0 : decide (0 ≤ t343)=true:=decide_eq_true c14
    clear c14
    by_cases c15 : t343 < (l0.length : Int)
    ·rw [if_pos c15] at H
     have c15b0 : decide (t343 < (l0.length : Int))=true:=decide_eq_true c15
     clear c15
     replace H:=Option.bind_eq_some_iff.mp H
     obtain ⟨t345,A160,H⟩:=H
     replace H : (if t345=true then (some ((rd_T65 l0 t343).f0,true,0)) else (some (0,false,0)))=some (r1,r2,r3):=H
     have A16:=Aside0.mk A160
     clear A160
     by_cases c17 : t345=true
     ·subst c17
      have H1 : (some ((rd_T65 l0 t343).f0,true,0))=some (r1,r2,r3):=by rw [if_pos rfl] at H;exact H
      clear H
      have H:=H1
      clear H1
      simp only [Option.some.injEq,Prod.mk.injEq] at H
      obtain ⟨rfl,rfl,rfl⟩:=H
      go_enter Tryd.func50,Tryd.ntmps50
      try go_wp2_with (first | ((with_reducible refine gate_dst (N:=9) rfl ?_);refine box_event ?hg (N:=9) ?hd (cs:=#[.int .i64 a3_0,.int .i64 a3_1]) (t:=73) ?hr ?_;(case hd=>rfl);(case hg=>rfl);(case hr=>first | (go_simp;done) | (go_simp;rfl));intro gb341 hg w18 hbox hb;have n0_:=Aside0.mk (below_step (by repeat (first | (with_reducible first | exact HB.out | apply below_alloc | apply pw_below_drewN | apply below_drew1) | exact HB.out)) hb);have n1_:=Aside0.mk (hbox);have n2_:=Aside0.mk ((by rw [hg];exact (below_size (by repeat (first | (with_reducible first | exact HB.out | apply below_alloc | apply pw_below_drewN | apply below_drew1) | exact HB.out))) : w.heap.size ≤ gb341));have n3_:=Aside0.mk ((by rw [hg];exact (below_size (by repeat (first | (with_reducible first | exact HB.out | apply below_alloc | apply pw_below_drewN | apply below_drew1) | exact HB.out))) : w.heap.size ≤ gb341));clear HB;have HB:=n0_;have BK341:=n1_;have GW341:=n2_;have GE341:=n3_;clear n0_ n1_ n2_ n3_;clear hb hbox hg) | ((with_reducible refine gate_callee (f:=85) rfl ?_);refine goesL_ (some 21) rfl rfl Tryd.func85 (by kernel_rfl) rfl #[.slice A0 l0.length c0,.int .i64 a1,.int .i64 a4,.int .i64 a5] rfl (by (try simp only [List.map_toArray,List.map_cons,List.map_nil]);first | done | rfl | (simp only [List.length_drop,List.length_take];rfl)) ?_;(with_reducible refine (R48_Error.calls k _ _ l0 a1 a4 a5 t342 _ ?side1 ?side2 A7.out).mono ?_);(case side1=>repeat (first | exact (Kd.C_below HR0.out HB.out) | (with_reducible refine Kd.C_alloc ?_ _) | (with_reducible refine Kd.C_drewN ?_ _) | (with_reducible refine Kd.C_drew ?_)));(case side2=>exact HC0.out);rintro e w19 ⟨rfl,hb⟩;refine ⟨_,rfl,?_⟩;have n0_:=Aside0.mk (blk_below (g:=gb341) (o:=.cells #[.int .i64 a3_0,.int .i64 a3_1] 73 (0,0)) (by (with_reducible repeat (first | refine blk_drewN ?_ _ | refine blk_drew ?_ | refine blk_alloc ?_ _));exact BK341.out) hb);have n1_:=Aside0.mk (below_step (by repeat (first | (with_reducible first | exact HB.out | apply below_alloc | apply pw_below_drewN | apply below_drew1 | refine below_set ?_ GE341.out) | exact HB.out)) hb);clear BK341;clear HB;have BK341:=n0_;have HB:=n1_;clear n0_ n1_;(try clear hb);(try clear hb2);(try clear hk);(try clear hi)) | ((with_reducible refine gate_callee (f:=86) rfl ?_);refine goesL_ (some 29) rfl rfl Tryd.func86 (by kernel_rfl) rfl #[.slice A0 l0.length c0,.int .i64 a1,.int .i64 a4,.int .i64 a5] rfl (by (try simp only [List.map_toArray,List.map_cons,List.map_nil]);first | done | rfl | (simp only [List.length_drop,List.length_take];rfl)) ?_;(with_reducible refine (R48_current.calls k _ _ l0 a1 a4 a5 t343 _ ?side1 ?side2 A9.out).mono ?_);(case side1=>repeat (first | exact (Kd.C_below HR0.out HB.out) | (with_reducible refine Kd.C_alloc ?_ _) | (with_reducible refine Kd.C_drewN ?_ _) | (with_reducible refine Kd.C_drew ?_)));(case side2=>exact HC0.out);rintro e w' ⟨rfl,⟨nd,rfl⟩⟩;refine ⟨_,rfl,?_⟩))
      (try (rw [drewN_self w19];generalize hq_ : World.drewN w19 _=w19;have n0_ : Aside0 (w19.heap[gb341]?=some (.cells #[.int .i64 a3_0,.int .i64 a3_1] 73 (0,0))):=⟨by rw [← hq_];exact (by (with_reducible repeat (first | refine blk_drewN ?_ _ | refine blk_drew ?_ | refine blk_alloc ?_ _));exact BK341.out)⟩;have n1_ : Aside0 (Below w.heap.size w w19):=⟨by rw [← hq_];exact (by repeat (first | (with_reducible first | exact HB.out | apply below_alloc | apply pw_below_drewN | apply below_drew1 | refine below_set ?_ GE341.out) | exact HB.out))⟩;clear BK341 HB hq_;have BK341:=n0_;have HB:=n1_;clear n0_ n1_))
      have n0_:=Aside0.mk (blk_drew BK341.out)
      have n1_:=Aside0.mk (below_drew1 HB.out)
      clear BK341
      clear HB
      have BK341:=n0_
      have HB:=n1_
      clear n0_ n1_
      have p344 : 0 ≤ (t343 : Int):=of_decide_eq_true (by first | (with_reducible assumption) | assumption)
      have q344 : t343 < (l0.length : Int):=of_decide_eq_true (by first | (with_reducible assumption) | assumption)
      obtain ⟨ad344,e344,hx344_0,hx344_1,hx344_2,hx344_3,hx344_4,hx344_5⟩:=at_T65 HR0.out t343 p344 q344
      have hw344_5:=hx344_5
      have hw344_4:=hx344_4
      have hw344_3:=hx344_3
      have hw344_2:=hx344_2
      have hw344_1:=hx344_1
      have hw344_0:=hx344_0
      cases e344
      replace hx344_0:=(HB.out.cell (World.block_lt_of_cell? w _ hx344_0)).trans hx344_0
      replace hx344_1:=(HB.out.cell (World.block_lt_of_cell? w _ hx344_1)).trans hx344_1
      replace hx344_2:=(HB.out.cell (World.block_lt_of_cell? w _ hx344_2)).trans hx344_2
      replace hx344_3:=(HB.out.cell (World.block_lt_of_cell? w _ hx344_3)).trans hx344_3
      replace hx344_4:=(HB.out.cell (World.block_lt_of_cell? w _ hx344_4)).trans hx344_4
      replace hx344_5:=(HB.out.cell (World.block_lt_of_cell? w _ hx344_5)).trans hx344_5
      replace p344:=eq_true p344
      replace q344:=eq_true q344
      refine start_ (n:=13) (S:=fun w'=>w'.cell? ⟨gb341,0,none⟩=some (.int .i64 a3_0) ∧ w'.cell? ⟨gb341,1,none⟩=some (.int .i64 a3_1) ∧ w'.cell? (ad344.add ((t343).toNat * 6))=some (.int .i64 ((rd_T65 l0 t343).f0)) ∧ w'.cell? ⟨(ad344.add ((t343).toNat * 6)).block,(ad344.add ((t343).toNat * 6)).off + 1,none⟩=some (.int .i64 ((rd_T65 l0 t343).f1)) ∧ w'.cell? ⟨(ad344.add ((t343).toNat * 6)).block,(ad344.add ((t343).toNat * 6)).off + 2,none⟩=some (.int .i64 ((rd_T65 l0 t343).f2)) ∧ w'.cell? ⟨(ad344.add ((t343).toNat * 6)).block,(ad344.add ((t343).toNat * 6)).off + 3,none⟩=some (.int .i64 ((rd_T65 l0 t343).f3)) ∧ w'.cell? ⟨(ad344.add ((t343).toNat * 6)).block,(ad344.add ((t343).toNat * 6)).off + 4,none⟩=some (.int .i64 ((rd_T65 l0 t343).f4)) ∧ w'.cell? ⟨(ad344.add ((t343).toNat * 6)).block,(ad344.add ((t343).toNat * 6)).off + 5,none⟩=some (.bool ((rd_T65 l0 t343).f5))) (ds:=[]) pbigx11b0 (by kernel_rfl) rfl rfl ⟨(blk_cell BK341.out 0).trans rfl,(blk_cell BK341.out 1).trans rfl,((HB.out.cell (World.block_lt_of_cell? w _ hw344_0)).trans hw344_0),((HB.out.cell (World.block_lt_of_cell? w _ hw344_1)).trans hw344_1),((HB.out.cell (World.block_lt_of_cell? w _ hw344_2)).trans hw344_2),((HB.out.cell (World.block_lt_of_cell? w _ hw344_3)).trans hw344_3),((HB.out.cell (World.block_lt_of_cell? w _ hw344_4)).trans hw344_4),((HB.out.cell (World.block_lt_of_cell? w _ hw344_5)).trans hw344_5)⟩ (fun hHeld=>?_);refine with_tabW R48_Accepts.tab5 R48_Accepts.bits5 (fun HT_ HW_=>?_)
      generalize w19.drew=w20 at BK341 HB hx344_0 hx344_1 hx344_2 hx344_3 hx344_4 hx344_5 hHeld ⊢
      refine pure_ (i:=0) (N:=some 30) (v:=?_) (a':=?_) pbigx11b1 rfl rfl (any_of HT_.out (by kernel_rfl)) (fun _ _ _ h=>h) (Or.inl ⟨by rfl,?_⟩) ?_ ?_
      rotate_left
      ·intro w'
       go_simp
       with_reducible rfl
      rotate_left
      ·simp only [Act.put,pbigx11lsb,pbigx11lsz,pbigx11lss,i64_w,i32_w]
       rfl
      refine pure_ (i:=1) (N:=some 31) (v:=?_) (a':=?_) pbigx11b2 rfl rfl (any_of HT_.out (by kernel_rfl)) (fun _ _ _ h=>h) (Or.inl ⟨by rfl,?_⟩) ?_ ?_
      rotate_left
      ·intro w'
       go_simp
       with_reducible rfl
      rotate_left
      ·simp only [Act.put,pbigx11lsb,pbigx11lsz,pbigx11lss,i64_w,i32_w]
       rfl
      refine pure_ (i:=2) (N:=some 32) (v:=?_) (a':=?_) pbigx11b3 rfl rfl (any_of HT_.out (by kernel_rfl)) (fun _ _ _ h=>h) (Or.inl ⟨by rfl,?_⟩) ?_ ?_
      rotate_left
      ·intro w'
       go_simp
       with_reducible rfl
      rotate_left
      ·simp only [Act.put,pbigx11lsb,pbigx11lsz,pbigx11lss,i64_w,i32_w]
       rfl
      refine pure_ (i:=3) (N:=some 33) (v:=?_) (a':=?_) pbigx11b4 rfl rfl (any_of HT_.out (by kernel_rfl)) (fun _ _ _ h=>h) (Or.inl ⟨by rfl,?_⟩) ?_ ?_
      rotate_left
      ·intro w'
       go_simp
       with_reducible rfl
      rotate_left
      ·simp only [Act.put,pbigx11lsb,pbigx11lsz,pbigx11lss,i64_w,i32_w]
       rfl
      refine pure_ (i:=4) (N:=some 34) (v:=?_) (a':=?_) pbigx11b5 rfl rfl (any_of HT_.out (by kernel_rfl)) (fun _ _ _ h=>h) (Or.inl ⟨by rfl,?_⟩) ?_ ?_
      rotate_left
      ·intro w'
       go_simp
       with_reducible rfl
      rotate_left
      ·simp only [Act.put,pbigx11lsb,pbigx11lsz,pbigx11lss,i64_w,i32_w]
       rfl
      refine pure_ (i:=5) (N:=some 35) (v:=?_) (a':=?_) pbigx11b6 rfl rfl (any_of HT_.out (by kernel_rfl)) (fun _ _ _ h=>h) (Or.inl ⟨by rfl,?_⟩) ?_ ?_
      rotate_left
      ·intro w'
       go_simp
       with_reducible rfl
      rotate_left
      ·simp only [Act.put,pbigx11lsb,pbigx11lsz,pbigx11lss,i64_w,i32_w]
       rfl
      refine pure_ (i:=6) (N:=some 36) (v:=?_) (a':=?_) pbigx11b7 rfl rfl (any_of HT_.out (by kernel_rfl)) (fun _ _ _ h=>h) (Or.inl ⟨by rfl,?_⟩) ?_ ?_
      rotate_left
      ·intro w'
       go_simp
       with_reducible rfl
      rotate_left
      ·simp only [Act.put,pbigx11lsb,pbigx11lsz,pbigx11lss,i64_w,i32_w]
       rfl
      refine pure_ (i:=8) (N:=some 38) (v:=?_) (a':=?_) pbigx11b13 rfl rfl (any_of HT_.out (by kernel_rfl)) (fun _ _ _ h=>h) (Or.inl ⟨by rfl,?_⟩) ?_ ?_
      rotate_left
      ·intro w'
       go_simp
       with_reducible rfl
      rotate_left
      ·simp only [Act.put,pbigx11lsb,pbigx11lsz,pbigx11lss,i64_w,i32_w]
       rfl
      refine take_ (i:=7) (N:=some 37) (v:=?_) (a':=?_) pbigx11b8 rfl rfl (take_ofW HT_.out HW_.out (by kernel_rfl)) (fun _ _ _ h=>h) (Or.inl ⟨by rfl,?_⟩) hHeld ?_ ?_
      rotate_left
      ·rintro w' ⟨s0,s1,s2,s3,s4,s5,s6,s7⟩
       go_simp
       with_reducible rfl
      rotate_left
      ·simp only [Act.put,pbigx11lsb,pbigx11lsz,pbigx11lss,i64_w,i32_w]
       rfl
      refine take_ (i:=9) (N:=some 39) (v:=?_) (a':=?_) pbigx11b9 rfl rfl (take_ofW HT_.out HW_.out (by kernel_rfl)) (fun _ _ _ h=>h) (Or.inl ⟨by rfl,?_⟩) hHeld ?_ ?_
      rotate_left
      ·rintro w' ⟨s0,s1,s2,s3,s4,s5,s6,s7⟩
       go_simp
       with_reducible rfl
      rotate_left
      ·simp only [Act.put,pbigx11lsb,pbigx11lsz,pbigx11lss,i64_w,i32_w]
       rfl
      refine one_ (i:=10) (N:=some 40) pbigx11b10 rfl rfl (one_of HT_.out (by kernel_rfl)) (by decide) (fun K hK=>?_)
      refine goes_ Tryd.func87 (by kernel_rfl) rfl #[.int .i64 ((rd_T65 l0 t343).f4),.slice A2 l2.length c2,.agg #[.int .i64 a3_0,.int .i64 a3_1]] (by rfl) rfl rfl (by (try simp only [List.map_toArray,List.map_cons,List.map_nil]);first | done | rfl | (simp only [List.length_drop,List.length_take];rfl)) ?_
      with_reducible refine (R11_Verify.calls k ((rd_T65 l0 t343).f4) _ _ l2 a3_0 a3_1 true _ ?side1 ?side2 A16.out).mono ?_
      (case side1=>repeat (first | exact (Kd.C_below HR2.out HB.out) | (with_reducible refine Kd.C_alloc ?_ _) | (with_reducible refine Kd.C_drewN ?_ _) | (with_reducible refine Kd.C_drew ?_)))
      (case side2=>exact HC2.out)
      rintro e w21 ⟨rfl,hb⟩
      refine ⟨_,rfl,?_⟩
      have n0_:=Aside0.mk (blk_below (g:=gb341) (o:=.cells #[.int .i64 a3_0,.int .i64 a3_1] 73 (0,0)) (by (with_reducible repeat (first | refine blk_drewN ?_ _ | refine blk_drew ?_ | refine blk_alloc ?_ _));exact BK341.out) hb)
      have n1_:=Aside0.mk (below_step (by repeat (first | (with_reducible first | exact HB.out | apply below_alloc | apply pw_below_drewN | apply below_drew1 | refine below_set ?_ GE341.out) | exact HB.out)) hb)
      clear BK341
      clear HB
      have BK341:=n0_
      have HB:=n1_
      clear n0_ n1_
      (try clear hb)
      (try clear hb2)
      (try clear hk)
      (try clear hi)
      refine hK.out _ _ ⟨(blk_cell BK341.out 0).trans rfl,(blk_cell BK341.out 1).trans rfl,((HB.out.cell (World.block_lt_of_cell? w _ hw344_0)).trans hw344_0),((HB.out.cell (World.block_lt_of_cell? w _ hw344_1)).trans hw344_1),((HB.out.cell (World.block_lt_of_cell? w _ hw344_2)).trans hw344_2),((HB.out.cell (World.block_lt_of_cell? w _ hw344_3)).trans hw344_3),((HB.out.cell (World.block_lt_of_cell? w _ hw344_4)).trans hw344_4),((HB.out.cell (World.block_lt_of_cell? w _ hw344_5)).trans hw344_5)⟩ (fun hHeld=>?_)
      clear hK K
      refine norm_ (a':=?_) ?_ ?_
      rotate_left
      ·show Act.put _ (some 40) _=_
       simp only [Act.put,pbigx11lsb,pbigx11lsz,pbigx11lss,i64_w,i32_w]
       rfl
      refine pure_ (i:=11) (N:=some 41) (v:=?_) (a':=?_) pbigx11b11 rfl rfl (any_of HT_.out (by kernel_rfl)) (fun _ _ _ h=>h) (Or.inl ⟨by rfl,?_⟩) ?_ ?_
      rotate_left
      ·intro w'
       go_simp
       with_reducible rfl
      rotate_left
      ·simp only [Act.put,pbigx11lsb,pbigx11lsz,pbigx11lss,i64_w,i32_w]
       rfl
      refine pure_ (i:=12) (N:=some 42) (v:=?_) (a':=?_) pbigx11b12 rfl rfl (any_of HT_.out (by kernel_rfl)) (fun _ _ _ h=>h) (Or.inl ⟨by rfl,?_⟩) ?_ ?_
      rotate_left
      ·intro w'
       go_simp
       with_reducible rfl
      rotate_left
      ·simp only [Act.put,pbigx11lsb,pbigx11lsz,pbigx11lss,i64_w,i32_w]
       rfl
      refine done_ (done_of HT_.out (by kernel_rfl)) ?_
      have p346 : 0 ≤ (t343 : Int):=of_decide_eq_true (by first | (with_reducible assumption) | assumption)
      have q346 : t343 < (l0.length : Int):=of_decide_eq_true (by first | (with_reducible assumption) | assumption)
      obtain ⟨ad346,e346,hx346_0,hx346_1,hx346_2,hx346_3,hx346_4,hx346_5⟩:=at_T65 HR0.out t343 p346 q346
      obtain rfl : ad344=ad346:=(by injection e346)
      replace hx346_0:=(HB.out.cell (World.block_lt_of_cell? w _ hx346_0)).trans hx346_0
      replace hx346_1:=(HB.out.cell (World.block_lt_of_cell? w _ hx346_1)).trans hx346_1
      replace hx346_2:=(HB.out.cell (World.block_lt_of_cell? w _ hx346_2)).trans hx346_2
      replace hx346_3:=(HB.out.cell (World.block_lt_of_cell? w _ hx346_3)).trans hx346_3
      replace hx346_4:=(HB.out.cell (World.block_lt_of_cell? w _ hx346_4)).trans hx346_4
      replace hx346_5:=(HB.out.cell (World.block_lt_of_cell? w _ hx346_5)).trans hx346_5
      replace p346:=eq_true p346
      replace q346:=eq_true q346
      try go_wp2
      go_ret3
      exact ⟨by first | rfl | (simp [errW_none,errW_some] <;> rfl) | (simp [*,errW_none,errW_some] <;> rfl),by repeat (first | (with_reducible first | exact HB.out | apply below_alloc | apply pw_below_drewN | apply below_drew1 | refine below_set ?_ GE341.out) | exact HB.out)⟩
     ·replace c17:=Bool.eq_false_iff.mpr c17
      subst c17
      have H1 : (some (0,false,0))=some (r1,r2,r3):=by rw [if_neg (show ¬ (false=true) by decide)] at H;exact H
      clear H
      have H:=H1
      clear H1
      simp only [Option.some.injEq,Prod.mk.injEq] at H
      obtain ⟨rfl,rfl,rfl⟩:=H
      go_enter Tryd.func50,Tryd.ntmps50
      try go_wp2_with (first | ((with_reducible refine gate_dst (N:=9) rfl ?_);refine box_event ?hg (N:=9) ?hd (cs:=#[.int .i64 a3_0,.int .i64 a3_1]) (t:=73) ?hr ?_;(case hd=>rfl);(case hg=>rfl);(case hr=>first | (go_simp;done) | (go_simp;rfl));intro gb341 hg w22 hbox hb;have n0_:=Aside0.mk (below_step (by repeat (first | (with_reducible first | exact HB.out | apply below_alloc | apply pw_below_drewN | apply below_drew1) | exact HB.out)) hb);have n1_:=Aside0.mk (hbox);have n2_:=Aside0.mk ((by rw [hg];exact (below_size (by repeat (first | (with_reducible first | exact HB.out | apply below_alloc | apply pw_below_drewN | apply below_drew1) | exact HB.out))) : w.heap.size ≤ gb341));have n3_:=Aside0.mk ((by rw [hg];exact (below_size (by repeat (first | (with_reducible first | exact HB.out | apply below_alloc | apply pw_below_drewN | apply below_drew1) | exact HB.out))) : w.heap.size ≤ gb341));clear HB;have HB:=n0_;have BK341:=n1_;have GW341:=n2_;have GE341:=n3_;clear n0_ n1_ n2_ n3_;clear hb hbox hg) | ((with_reducible refine gate_callee (f:=85) rfl ?_);refine goesL_ (some 21) rfl rfl Tryd.func85 (by kernel_rfl) rfl #[.slice A0 l0.length c0,.int .i64 a1,.int .i64 a4,.int .i64 a5] rfl (by (try simp only [List.map_toArray,List.map_cons,List.map_nil]);first | done | rfl | (simp only [List.length_drop,List.length_take];rfl)) ?_;(with_reducible refine (R48_Error.calls k _ _ l0 a1 a4 a5 t342 _ ?side1 ?side2 A7.out).mono ?_);(case side1=>repeat (first | exact (Kd.C_below HR0.out HB.out) | (with_reducible refine Kd.C_alloc ?_ _) | (with_reducible refine Kd.C_drewN ?_ _) | (with_reducible refine Kd.C_drew ?_)));(case side2=>exact HC0.out);rintro e w23 ⟨rfl,hb⟩;refine ⟨_,rfl,?_⟩;have n0_:=Aside0.mk (blk_below (g:=gb341) (o:=.cells #[.int .i64 a3_0,.int .i64 a3_1] 73 (0,0)) (by (with_reducible repeat (first | refine blk_drewN ?_ _ | refine blk_drew ?_ | refine blk_alloc ?_ _));exact BK341.out) hb);have n1_:=Aside0.mk (below_step (by repeat (first | (with_reducible first | exact HB.out | apply below_alloc | apply pw_below_drewN | apply below_drew1 | refine below_set ?_ GE341.out) | exact HB.out)) hb);clear BK341;clear HB;have BK341:=n0_;have HB:=n1_;clear n0_ n1_;(try clear hb);(try clear hb2);(try clear hk);(try clear hi)) | ((with_reducible refine gate_callee (f:=86) rfl ?_);refine goesL_ (some 29) rfl rfl Tryd.func86 (by kernel_rfl) rfl #[.slice A0 l0.length c0,.int .i64 a1,.int .i64 a4,.int .i64 a5] rfl (by (try simp only [List.map_toArray,List.map_cons,List.map_nil]);first | done | rfl | (simp only [List.length_drop,List.length_take];rfl)) ?_;(with_reducible refine (R48_current.calls k _ _ l0 a1 a4 a5 t343 _ ?side1 ?side2 A9.out).mono ?_);(case side1=>repeat (first | exact (Kd.C_below HR0.out HB.out) | (with_reducible refine Kd.C_alloc ?_ _) | (with_reducible refine Kd.C_drewN ?_ _) | (with_reducible refine Kd.C_drew ?_)));(case side2=>exact HC0.out);rintro e w' ⟨rfl,⟨nd,rfl⟩⟩;refine ⟨_,rfl,?_⟩))
      (try (rw [drewN_self w23];generalize hq_ : World.drewN w23 _=w23;have n0_ : Aside0 (w23.heap[gb341]?=some (.cells #[.int .i64 a3_0,.int .i64 a3_1] 73 (0,0))):=⟨by rw [← hq_];exact (by (with_reducible repeat (first | refine blk_drewN ?_ _ | refine blk_drew ?_ | refine blk_alloc ?_ _));exact BK341.out)⟩;have n1_ : Aside0 (Below w.heap.size w w23):=⟨by rw [← hq_];exact (by repeat (first | (with_reducible first | exact HB.out | apply below_alloc | apply pw_below_drewN | apply below_drew1 | refine below_set ?_ GE341.out) | exact HB.out))⟩;clear BK341 HB hq_;have BK341:=n0_;have HB:=n1_;clear n0_ n1_))
      have n0_:=Aside0.mk (blk_drew BK341.out)
      have n1_:=Aside0.mk (below_drew1 HB.out)
      clear BK341
      clear HB
      have BK341:=n0_
      have HB:=n1_
      clear n0_ n1_
      have p344 : 0 ≤ (t343 : Int):=of_decide_eq_true (by first | (with_reducible assumption) | assumption)
      have q344 : t343 < (l0.length : Int):=of_decide_eq_true (by first | (with_reducible assumption) | assumption)
      obtain ⟨ad344,e344,hx344_0,hx344_1,hx344_2,hx344_3,hx344_4,hx344_5⟩:=at_T65 HR0.out t343 p344 q344
      have hw344_5:=hx344_5
      have hw344_4:=hx344_4
      have hw344_3:=hx344_3
      have hw344_2:=hx344_2
      have hw344_1:=hx344_1
      have hw344_0:=hx344_0
      cases e344
      replace hx344_0:=(HB.out.cell (World.block_lt_of_cell? w _ hx344_0)).trans hx344_0
      replace hx344_1:=(HB.out.cell (World.block_lt_of_cell? w _ hx344_1)).trans hx344_1
      replace hx344_2:=(HB.out.cell (World.block_lt_of_cell? w _ hx344_2)).trans hx344_2
      replace hx344_3:=(HB.out.cell (World.block_lt_of_cell? w _ hx344_3)).trans hx344_3
      replace hx344_4:=(HB.out.cell (World.block_lt_of_cell? w _ hx344_4)).trans hx344_4
      replace hx344_5:=(HB.out.cell (World.block_lt_of_cell? w _ hx344_5)).trans hx344_5
      replace p344:=eq_true p344
      replace q344:=eq_true q344
      refine start_ (n:=13) (S:=fun w'=>w'.cell? ⟨gb341,0,none⟩=some (.int .i64 a3_0) ∧ w'.cell? ⟨gb341,1,none⟩=some (.int .i64 a3_1) ∧ w'.cell? (ad344.add ((t343).toNat * 6))=some (.int .i64 ((rd_T65 l0 t343).f0)) ∧ w'.cell? ⟨(ad344.add ((t343).toNat * 6)).block,(ad344.add ((t343).toNat * 6)).off + 1,none⟩=some (.int .i64 ((rd_T65 l0 t343).f1)) ∧ w'.cell? ⟨(ad344.add ((t343).toNat * 6)).block,(ad344.add ((t343).toNat * 6)).off + 2,none⟩=some (.int .i64 ((rd_T65 l0 t343).f2)) ∧ w'.cell? ⟨(ad344.add ((t343).toNat * 6)).block,(ad344.add ((t343).toNat * 6)).off + 3,none⟩=some (.int .i64 ((rd_T65 l0 t343).f3)) ∧ w'.cell? ⟨(ad344.add ((t343).toNat * 6)).block,(ad344.add ((t343).toNat * 6)).off + 4,none⟩=some (.int .i64 ((rd_T65 l0 t343).f4)) ∧ w'.cell? ⟨(ad344.add ((t343).toNat * 6)).block,(ad344.add ((t343).toNat * 6)).off + 5,none⟩=some (.bool ((rd_T65 l0 t343).f5))) (ds:=[]) pbigx11b0 (by kernel_rfl) rfl rfl ⟨(blk_cell BK341.out 0).trans rfl,(blk_cell BK341.out 1).trans rfl,((HB.out.cell (World.block_lt_of_cell? w _ hw344_0)).trans hw344_0),((HB.out.cell (World.block_lt_of_cell? w _ hw344_1)).trans hw344_1),((HB.out.cell (World.block_lt_of_cell? w _ hw344_2)).trans hw344_2),((HB.out.cell (World.block_lt_of_cell? w _ hw344_3)).trans hw344_3),((HB.out.cell (World.block_lt_of_cell? w _ hw344_4)).trans hw344_4),((HB.out.cell (World.block_lt_of_cell? w _ hw344_5)).trans hw344_5)⟩ (fun hHeld=>?_);refine with_tabW R48_Accepts.tab5 R48_Accepts.bits5 (fun HT_ HW_=>?_)
      generalize w23.drew=w24 at BK341 HB hx344_0 hx344_1 hx344_2 hx344_3 hx344_4 hx344_5 hHeld ⊢
      refine pure_ (i:=0) (N:=some 30) (v:=?_) (a':=?_) pbigx11b1 rfl rfl (any_of HT_.out (by kernel_rfl)) (fun _ _ _ h=>h) (Or.inl ⟨by rfl,?_⟩) ?_ ?_
      rotate_left
      ·intro w'
       go_simp
       with_reducible rfl
      rotate_left
      ·simp only [Act.put,pbigx11lsb,pbigx11lsz,pbigx11lss,i64_w,i32_w]
       rfl
      refine pure_ (i:=1) (N:=some 31) (v:=?_) (a':=?_) pbigx11b2 rfl rfl (any_of HT_.out (by kernel_rfl)) (fun _ _ _ h=>h) (Or.inl ⟨by rfl,?_⟩) ?_ ?_
      rotate_left
      ·intro w'
       go_simp
       with_reducible rfl
      rotate_left
      ·simp only [Act.put,pbigx11lsb,pbigx11lsz,pbigx11lss,i64_w,i32_w]
       rfl
      refine pure_ (i:=2) (N:=some 32) (v:=?_) (a':=?_) pbigx11b3 rfl rfl (any_of HT_.out (by kernel_rfl)) (fun _ _ _ h=>h) (Or.inl ⟨by rfl,?_⟩) ?_ ?_
      rotate_left
      ·intro w'
       go_simp
       with_reducible rfl
      rotate_left
      ·simp only [Act.put,pbigx11lsb,pbigx11lsz,pbigx11lss,i64_w,i32_w]
       rfl
      refine pure_ (i:=3) (N:=some 33) (v:=?_) (a':=?_) pbigx11b4 rfl rfl (any_of HT_.out (by kernel_rfl)) (fun _ _ _ h=>h) (Or.inl ⟨by rfl,?_⟩) ?_ ?_
      rotate_left
      ·intro w'
       go_simp
       with_reducible rfl
      rotate_left
      ·simp only [Act.put,pbigx11lsb,pbigx11lsz,pbigx11lss,i64_w,i32_w]
       rfl
      refine pure_ (i:=4) (N:=some 34) (v:=?_) (a':=?_) pbigx11b5 rfl rfl (any_of HT_.out (by kernel_rfl)) (fun _ _ _ h=>h) (Or.inl ⟨by rfl,?_⟩) ?_ ?_
      rotate_left
      ·intro w'
       go_simp
       with_reducible rfl
      rotate_left
      ·simp only [Act.put,pbigx11lsb,pbigx11lsz,pbigx11lss,i64_w,i32_w]
       rfl
      refine pure_ (i:=5) (N:=some 35) (v:=?_) (a':=?_) pbigx11b6 rfl rfl (any_of HT_.out (by kernel_rfl)) (fun _ _ _ h=>h) (Or.inl ⟨by rfl,?_⟩) ?_ ?_
      rotate_left
      ·intro w'
       go_simp
       with_reducible rfl
      rotate_left
      ·simp only [Act.put,pbigx11lsb,pbigx11lsz,pbigx11lss,i64_w,i32_w]
       rfl
      refine pure_ (i:=6) (N:=some 36) (v:=?_) (a':=?_) pbigx11b7 rfl rfl (any_of HT_.out (by kernel_rfl)) (fun _ _ _ h=>h) (Or.inl ⟨by rfl,?_⟩) ?_ ?_
      rotate_left
      ·intro w'
       go_simp
       with_reducible rfl
      rotate_left
      ·simp only [Act.put,pbigx11lsb,pbigx11lsz,pbigx11lss,i64_w,i32_w]
       rfl
      refine pure_ (i:=8) (N:=some 38) (v:=?_) (a':=?_) pbigx11b13 rfl rfl (any_of HT_.out (by kernel_rfl)) (fun _ _ _ h=>h) (Or.inl ⟨by rfl,?_⟩) ?_ ?_
      rotate_left
      ·intro w'
       go_simp
       with_reducible rfl
      rotate_left
      ·simp only [Act.put,pbigx11lsb,pbigx11lsz,pbigx11lss,i64_w,i32_w]
       rfl
      refine take_ (i:=7) (N:=some 37) (v:=?_) (a':=?_) pbigx11b8 rfl rfl (take_ofW HT_.out HW_.out (by kernel_rfl)) (fun _ _ _ h=>h) (Or.inl ⟨by rfl,?_⟩) hHeld ?_ ?_
      rotate_left
      ·rintro w' ⟨s0,s1,s2,s3,s4,s5,s6,s7⟩
       go_simp
       with_reducible rfl
      rotate_left
      ·simp only [Act.put,pbigx11lsb,pbigx11lsz,pbigx11lss,i64_w,i32_w]
       rfl
      refine take_ (i:=9) (N:=some 39) (v:=?_) (a':=?_) pbigx11b9 rfl rfl (take_ofW HT_.out HW_.out (by kernel_rfl)) (fun _ _ _ h=>h) (Or.inl ⟨by rfl,?_⟩) hHeld ?_ ?_
      rotate_left
      ·rintro w' ⟨s0,s1,s2,s3,s4,s5,s6,s7⟩
       go_simp
       with_reducible rfl
      rotate_left
      ·simp only [Act.put,pbigx11lsb,pbigx11lsz,pbigx11lss,i64_w,i32_w]
       rfl
      refine one_ (i:=10) (N:=some 40) pbigx11b10 rfl rfl (one_of HT_.out (by kernel_rfl)) (by decide) (fun K hK=>?_)
      refine goes_ Tryd.func87 (by kernel_rfl) rfl #[.int .i64 ((rd_T65 l0 t343).f4),.slice A2 l2.length c2,.agg #[.int .i64 a3_0,.int .i64 a3_1]] (by rfl) rfl rfl (by (try simp only [List.map_toArray,List.map_cons,List.map_nil]);first | done | rfl | (simp only [List.length_drop,List.length_take];rfl)) ?_
      with_reducible refine (R11_Verify.calls k ((rd_T65 l0 t343).f4) _ _ l2 a3_0 a3_1 false _ ?side1 ?side2 A16.out).mono ?_
      (case side1=>repeat (first | exact (Kd.C_below HR2.out HB.out) | (with_reducible refine Kd.C_alloc ?_ _) | (with_reducible refine Kd.C_drewN ?_ _) | (with_reducible refine Kd.C_drew ?_)))
      (case side2=>exact HC2.out)
      rintro e w25 ⟨rfl,hb⟩
      refine ⟨_,rfl,?_⟩
      have n0_:=Aside0.mk (blk_below (g:=gb341) (o:=.cells #[.int .i64 a3_0,.int .i64 a3_1] 73 (0,0)) (by (with_reducible repeat (first | refine blk_drewN ?_ _ | refine blk_drew ?_ | refine blk_alloc ?_ _));exact BK341.out) hb)
      have n1_:=Aside0.mk (below_step (by repeat (first | (with_reducible first | exact HB.out | apply below_alloc | apply pw_below_drewN | apply below_drew1 | refine below_set ?_ GE341.out) | exact HB.out)) hb)
      clear BK341
      clear HB
      have BK341:=n0_
      have HB:=n1_
      clear n0_ n1_
      (try clear hb)
      (try clear hb2)
      (try clear hk)
      (try clear hi)
      refine hK.out _ _ ⟨(blk_cell BK341.out 0).trans rfl,(blk_cell BK341.out 1).trans rfl,((HB.out.cell (World.block_lt_of_cell? w _ hw344_0)).trans hw344_0),((HB.out.cell (World.block_lt_of_cell? w _ hw344_1)).trans hw344_1),((HB.out.cell (World.block_lt_of_cell? w _ hw344_2)).trans hw344_2),((HB.out.cell (World.block_lt_of_cell? w _ hw344_3)).trans hw344_3),((HB.out.cell (World.block_lt_of_cell? w _ hw344_4)).trans hw344_4),((HB.out.cell (World.block_lt_of_cell? w _ hw344_5)).trans hw344_5)⟩ (fun hHeld=>?_)
      clear hK K
      refine norm_ (a':=?_) ?_ ?_
      rotate_left
      ·show Act.put _ (some 40) _=_
       simp only [Act.put,pbigx11lsb,pbigx11lsz,pbigx11lss,i64_w,i32_w]
       rfl
      refine pure_ (i:=11) (N:=some 41) (v:=?_) (a':=?_) pbigx11b11 rfl rfl (any_of HT_.out (by kernel_rfl)) (fun _ _ _ h=>h) (Or.inl ⟨by rfl,?_⟩) ?_ ?_
      rotate_left
      ·intro w'
       go_simp
       with_reducible rfl
      rotate_left
      ·simp only [Act.put,pbigx11lsb,pbigx11lsz,pbigx11lss,i64_w,i32_w]
       rfl
      refine pure_ (i:=12) (N:=some 42) (v:=?_) (a':=?_) pbigx11b12 rfl rfl (any_of HT_.out (by kernel_rfl)) (fun _ _ _ h=>h) (Or.inl ⟨by rfl,?_⟩) ?_ ?_
      rotate_left
      ·intro w'
       go_simp
       with_reducible rfl
      rotate_left
      ·simp only [Act.put,pbigx11lsb,pbigx11lsz,pbigx11lss,i64_w,i32_w]
       rfl
      refine done_ (done_of HT_.out (by kernel_rfl)) ?_
      try go_wp2
      go_ret3
      exact ⟨by first | rfl | (simp [errW_none,errW_some] <;> rfl) | (simp [*,errW_none,errW_some] <;> rfl),by repeat (first | (with_reducible first | exact HB.out | apply below_alloc | apply pw_below_drewN | apply below_drew1 | refine below_set ?_ GE341.out) | exact HB.out)⟩
    ·rw [if_neg c15] at H
     exact absurd H (by simp)
   ·rw [if_neg c14] at H
    exact absurd H (by simp)
 ·rw [if_neg c8] at H
  have c8b0 : (t342 == 0)=false:=beq_eq_false_iff_ne.mpr c8
  have c8b1 : (t342 != 0)=true:=bne_iff_ne.mpr c8
  simp only [Option.some.injEq,Prod.mk.injEq] at H
  obtain ⟨rfl,rfl,rfl⟩:=H
  go_enter Tryd.func50,Tryd.ntmps50
  go_wp2_with (first | ((with_reducible refine gate_dst (N:=9) rfl ?_);refine box_event ?hg (N:=9) ?hd (cs:=#[.int .i64 a3_0,.int .i64 a3_1]) (t:=73) ?hr ?_;(case hd=>rfl);(case hg=>rfl);(case hr=>first | (go_simp;done) | (go_simp;rfl));intro gb341 hg w26 hbox hb;have n0_:=Aside0.mk (below_step (by repeat (first | (with_reducible first | exact HB.out | apply below_alloc | apply pw_below_drewN | apply below_drew1) | exact HB.out)) hb);have n1_:=Aside0.mk (hbox);have n2_:=Aside0.mk ((by rw [hg];exact (below_size (by repeat (first | (with_reducible first | exact HB.out | apply below_alloc | apply pw_below_drewN | apply below_drew1) | exact HB.out))) : w.heap.size ≤ gb341));have n3_:=Aside0.mk ((by rw [hg];exact (below_size (by repeat (first | (with_reducible first | exact HB.out | apply below_alloc | apply pw_below_drewN | apply below_drew1) | exact HB.out))) : w.heap.size ≤ gb341));clear HB;have HB:=n0_;have BK341:=n1_;have GW341:=n2_;have GE341:=n3_;clear n0_ n1_ n2_ n3_;clear hb hbox hg) | ((with_reducible refine gate_callee (f:=85) rfl ?_);refine goesL_ (some 21) rfl rfl Tryd.func85 (by kernel_rfl) rfl #[.slice A0 l0.length c0,.int .i64 a1,.int .i64 a4,.int .i64 a5] rfl (by (try simp only [List.map_toArray,List.map_cons,List.map_nil]);first | done | rfl | (simp only [List.length_drop,List.length_take];rfl)) ?_;(with_reducible refine (R48_Error.calls k _ _ l0 a1 a4 a5 t342 _ ?side1 ?side2 A7.out).mono ?_);(case side1=>repeat (first | exact (Kd.C_below HR0.out HB.out) | (with_reducible refine Kd.C_alloc ?_ _) | (with_reducible refine Kd.C_drewN ?_ _) | (with_reducible refine Kd.C_drew ?_)));(case side2=>exact HC0.out);rintro e w27 ⟨rfl,hb⟩;refine ⟨_,rfl,?_⟩;have n0_:=Aside0.mk (blk_below (g:=gb341) (o:=.cells #[.int .i64 a3_0,.int .i64 a3_1] 73 (0,0)) (by (with_reducible repeat (first | refine blk_drewN ?_ _ | refine blk_drew ?_ | refine blk_alloc ?_ _));exact BK341.out) hb);have n1_:=Aside0.mk (below_step (by repeat (first | (with_reducible first | exact HB.out | apply below_alloc | apply pw_below_drewN | apply below_drew1 | refine below_set ?_ GE341.out) | exact HB.out)) hb);clear BK341;clear HB;have BK341:=n0_;have HB:=n1_;clear n0_ n1_;(try clear hb);(try clear hb2);(try clear hk);(try clear hi)))
  go_ret3
  exact ⟨by first | rfl | (simp [errW_none,errW_some] <;> rfl) | (simp [*,errW_none,errW_some] <;> rfl),by repeat (first | (with_reducible first | exact HB.out | apply below_alloc | apply pw_below_drewN | apply below_drew1 | refine below_set ?_ GE341.out) | exact HB.out)⟩
def L48_DevicesCurrentSpec.j0 : Nat → List (S65) → Int → List Int → Int → Int → Bool → Int → Int → Option (Bool)
 | 0,_,_,_,_,_,_,_,_=>none
 | k + 1,x0,x1,x2,x4,x5,x36,x348000,x348001=>if x36=true then (some true) else ((devices_Current.f x0 x1 x4 x5).bind fun bt350=>((R48_Current.f k x0 x1 x4 x5).bind fun bt354=>((devices_Accepts.f x0 x1 x2 x348000 x348001 x4 x5).bind fun bt358=>((R48_Accepts.f k x0 x1 x2 x348000 x348001 x4 x5).bind fun bt361=>(if bt350.1=bt354.1 then (if bt350.2.1=bt354.2.1 then (if (bt350.2.2.1 == bt354.2.2.1)=true then (if bt350.2.2.2=bt354.2.2.2 then (if bt358.1=bt361.1 then (if (bt358.2.1 == bt361.2.1)=true then (some (bt358.2.2 == bt361.2.2)) else (some false)) else (some false)) else (some false)) else (some false)) else (some false)) else (some false))))))
def L48_DevicesCurrentSpec.f (k : Nat) (l0 : List (S65)) (a1 : Int) (l2 : List Int) (a3_0 : Int) (a3_1 : Int) (a4 : Int) (a5 : Int) : Option (Bool):=(L48_sane.f k).bind fun t348=>(if t348=true then ((R48_Few.f l0).bind fun t349=>(if t349=true then (L48_DevicesCurrentSpec.j0 k l0 a1 l2 a4 a5 (decide ((l2.length : Int) > 200)) a3_0 a3_1) else (L48_DevicesCurrentSpec.j0 k l0 a1 l2 a4 a5 true a3_0 a3_1))) else (some false))
theorem L48_DevicesCurrentSpec.mono_l : ∀ k,(∀ y0 y1 y2 y3 y4 y5 y6 y7,LeO (L48_DevicesCurrentSpec.j0 k y0 y1 y2 y3 y4 y5 y6 y7) (L48_DevicesCurrentSpec.j0 (k + 1) y0 y1 y2 y3 y4 y5 y6 y7))
 | 0=>fun _ _ _ _ _ _ _ _ r h=>by simp [L48_DevicesCurrentSpec.j0] at h
 | k + 1=>by
  have ih0:=L48_DevicesCurrentSpec.mono_l k
  ·intro y0 y1 y2 y3 y4 y5 y6 y7
   unfold L48_DevicesCurrentSpec.j0
   repeat' first
   | (with_reducible exact ih0 _ _ _ _ _ _ _ _)
   | (with_reducible exact L48_sane.mono _)
   | (with_reducible exact R48_Accepts.mono _ _ _ _ _ _ _ _)
   | (with_reducible exact R48_Current.mono _ _ _ _ _)
   | (with_reducible exact LeO.refl _)
   | (with_reducible exact LeO.none _)
   | (with_reducible refine LeO.ite ?_ ?_)
   | (with_reducible refine LeO.bind ?_ (fun _=>?_))
   | exact ih0 _ _ _ _ _ _ _ _
   | exact L48_sane.mono _
   | exact R48_Accepts.mono _ _ _ _ _ _ _ _
   | exact R48_Current.mono _ _ _ _ _
   | exact LeO.none _
   | refine LeO.ite ?_ ?_
   | refine LeO.bind ?_ (fun _=>?_)
theorem L48_DevicesCurrentSpec.mono : ∀ a0 a1 a2 a3 a4 a5 a6 k,LeO (L48_DevicesCurrentSpec.f k a0 a1 a2 a3 a4 a5 a6) (L48_DevicesCurrentSpec.f (k + 1) a0 a1 a2 a3 a4 a5 a6):=by
 intro a0 a1 a2 a3 a4 a5 a6 k
 have ih0:=L48_DevicesCurrentSpec.mono_l k
 unfold L48_DevicesCurrentSpec.f
 repeat' first
   | (with_reducible exact ih0 _ _ _ _ _ _ _ _)
   | (with_reducible exact L48_sane.mono _)
   | (with_reducible exact R48_Accepts.mono _ _ _ _ _ _ _ _)
   | (with_reducible exact R48_Current.mono _ _ _ _ _)
   | (with_reducible exact LeO.refl _)
   | (with_reducible exact LeO.none _)
   | (with_reducible refine LeO.ite ?_ ?_)
   | (with_reducible refine LeO.bind ?_ (fun _=>?_))
   | exact ih0 _ _ _ _ _ _ _ _
   | exact L48_sane.mono _
   | exact R48_Accepts.mono _ _ _ _ _ _ _ _
   | exact R48_Current.mono _ _ _ _ _
   | exact LeO.none _
   | refine LeO.ite ?_ ?_
   | refine LeO.bind ?_ (fun _=>?_)
set_option maxHeartbeats 8000000 in
set_option maxRecDepth 100000 in
theorem L48_DevicesCurrentSpec.calls (k : Nat) (A0 : Option Addr) (c0 : Nat) (l0 : List (S65)) (a1 : Int) (A2 : Option Addr) (c2 : Nat) (l2 : List Int) (a3_0 : Int) (a3_1 : Int) (a4 : Int) (a5 : Int) (r : Bool) (w : World) (hLd : Go.Proofs.YtjbcfdgnafmbkaaDoor.Sha.Laid w) (hr0 : Kd.C k65 w A0 l0.length l0) (hc0 : l0.length ≤ c0) (hr2 : Kd.C (Kd.int .u8) w A2 l2.length l2) (hc2 : l2.length ≤ c2) (h : L48_DevicesCurrentSpec.f k l0 a1 l2 a3_0 a3_1 a4 a5=some r) :
  Calls Tryd.prog 11 #[.slice A0 l0.length c0,.int .i64 a1,.slice A2 l2.length c2,.agg #[.int .i64 a3_0,.int .i64 a3_1],.int .i64 a4,.int .i64 a5] w fun e w'=>e=.returned (.bool r) ∧ Below w.heap.size w w':=by
 have HLd:=Aside0.mk hLd
 clear hLd
 have hu73:=Tryd.underlying73
 have HR0:=Aside0.mk hr0
 have HC0:=Aside0.mk hc0
 clear hr0 hc0
 have HR2:=Aside0.mk hr2
 have HC2:=Aside0.mk hc2
 clear hr2 hc2
 have HB:=Aside0.mk (Below.refl w.heap.size w)
 have H : ((L48_sane.f k).bind fun t348=>(if t348=true then ((R48_Few.f l0).bind fun t349=>(if t349=true then (L48_DevicesCurrentSpec.j0 k l0 a1 l2 a4 a5 (decide ((l2.length : Int) > 200)) a3_0 a3_1) else (L48_DevicesCurrentSpec.j0 k l0 a1 l2 a4 a5 true a3_0 a3_1))) else (some false)))=some r:=h
 clear h
 replace H:=Option.bind_eq_some_iff.mp H
 obtain ⟨t348,A70,H⟩:=H
 replace H : (if t348=true then ((R48_Few.f l0).bind fun t349=>(if t349=true then (L48_DevicesCurrentSpec.j0 k l0 a1 l2 a4 a5 (decide ((l2.length : Int) > 200)) a3_0 a3_1) else (L48_DevicesCurrentSpec.j0 k l0 a1 l2 a4 a5 true a3_0 a3_1))) else (some false))=some r:=H
 have A7:=Aside0.mk A70
 clear A70
 by_cases c8 : t348=true
 ·subst c8
  have H1 : ((R48_Few.f l0).bind fun t349=>(if t349=true then (L48_DevicesCurrentSpec.j0 k l0 a1 l2 a4 a5 (decide ((l2.length : Int) > 200)) a3_0 a3_1) else (L48_DevicesCurrentSpec.j0 k l0 a1 l2 a4 a5 true a3_0 a3_1)))=some r:=by rw [if_pos rfl] at H;exact H
  clear H
  have H:=H1
  clear H1
  have HC9:=Aside0.mk H
  clear H
  go_enter Tryd.func11,Tryd.ntmps11
  go_upto_region 3 with (first | ((with_reducible refine gate_dst (N:=9) rfl ?_);(try (refine gate_guard (by rfl) ?_;dsimp only));refine box_event ?hg (N:=9) ?hd (cs:=#[.int .i64 a3_0,.int .i64 a3_1]) (t:=73) ?hr ?_;(case hd=>rfl);(case hg=>rfl);(case hr=>first | (go_simp;done) | (go_simp;rfl));intro gb347 hg w10 hbox hb;have n0_:=Aside0.mk (below_step (by repeat (first | (with_reducible first | exact HB.out | apply below_alloc | apply pw_below_drewN | apply below_drew1) | exact HB.out)) hb);have n1_:=Aside0.mk (hbox);have n2_:=Aside0.mk ((by rw [hg];exact (below_size (by repeat (first | (with_reducible first | exact HB.out | apply below_alloc | apply pw_below_drewN | apply below_drew1) | exact HB.out))) : w.heap.size ≤ gb347));have n3_:=Aside0.mk ((by rw [hg];exact (below_size (by repeat (first | (with_reducible first | exact HB.out | apply below_alloc | apply pw_below_drewN | apply below_drew1) | exact HB.out))) : w.heap.size ≤ gb347));clear HB;have HB:=n0_;have BK347:=n1_;have GW347:=n2_;have GE347:=n3_;clear n0_ n1_ n2_ n3_;clear hb hbox hg) | ((with_reducible refine gate_callee (f:=40) rfl ?_);refine goesL_ (some 27) rfl rfl Tryd.func40 (by kernel_rfl) rfl #[] rfl (by (try simp only [List.map_toArray,List.map_cons,List.map_nil]);first | done | rfl | (simp only [List.length_drop,List.length_take];rfl)) ?_;(with_reducible refine (L48_sane.calls (hLd:=?sideL) k  true _ A7.out).mono ?_);(case sideL=>exact Go.Proofs.YtjbcfdgnafmbkaaDoor.Cod.Laid.below HLd.out (by repeat (first | (with_reducible first | exact HB.out | apply below_alloc | apply pw_below_drewN | apply below_drew1 | refine below_set ?_ GE347.out) | exact HB.out)));rintro e w11 ⟨rfl,hb⟩;refine ⟨_,rfl,?_⟩;have n0_:=Aside0.mk (blk_below (g:=gb347) (o:=.cells #[.int .i64 a3_0,.int .i64 a3_1] 73 (0,0)) (by (with_reducible repeat (first | refine blk_drewN ?_ _ | refine blk_drew ?_ | refine blk_alloc ?_ _));exact BK347.out) hb);have n1_:=Aside0.mk (below_step (by repeat (first | (with_reducible first | exact HB.out | apply below_alloc | apply pw_below_drewN | apply below_drew1 | refine below_set ?_ GE347.out) | exact HB.out)) hb);clear BK347;clear HB;have BK347:=n0_;have HB:=n1_;clear n0_ n1_;(try clear hb);(try clear hb2);(try clear hk);(try clear hi)))
  (try simp only [Act.put,pbigx11lsb,pbigx11lsz,pbigx11lss])
  go_cut [36] (fun v36 wc=>∃ (kq : Nat) (x36_8 : Bool),v36=.bool x36_8 ∧ Aside0 (L48_DevicesCurrentSpec.j0 kq l0 a1 l2 a4 a5 x36_8 a3_0 a3_1=some r) ∧ Aside0 (kq ≤ k) ∧ Aside0 (wc.heap[gb347]?=some (.cells #[.int .i64 a3_0,.int .i64 a3_1] 73 (0,0))) ∧ Aside0 (Below w.heap.size w wc))
  case first =>
   have H:=HC9.out
   clear HC9
   replace H:=Option.bind_eq_some_iff.mp H
   obtain ⟨t349,A120,H⟩:=H
   replace H : (if t349=true then (L48_DevicesCurrentSpec.j0 k l0 a1 l2 a4 a5 (decide ((l2.length : Int) > 200)) a3_0 a3_1) else (L48_DevicesCurrentSpec.j0 k l0 a1 l2 a4 a5 true a3_0 a3_1))=some r:=H
   have A12:=Aside0.mk A120
   clear A120
   by_cases c13 : t349=true
   ·subst c13
    have H1 : (L48_DevicesCurrentSpec.j0 k l0 a1 l2 a4 a5 (decide ((l2.length : Int) > 200)) a3_0 a3_1)=some r:=by rw [if_pos rfl] at H;exact H
    clear H
    have H:=H1
    clear H1
    have H':=Aside0.mk H
    clear H
    go_wp2_with (first | ((with_reducible refine gate_callee (f:=41) rfl ?_);refine goesL_ (some 30) rfl rfl Tryd.func41 (by kernel_rfl) rfl #[.slice A0 l0.length c0] rfl (by (try simp only [List.map_toArray,List.map_cons,List.map_nil]);first | done | rfl | (simp only [List.length_drop,List.length_take];rfl)) ?_;(with_reducible refine (R48_Few.calls _ _ l0 true _ ?side1 ?side2 A12.out).mono ?_);(case side1=>repeat (first | exact (Kd.C_below HR0.out HB.out) | (with_reducible refine Kd.C_alloc ?_ _) | (with_reducible refine Kd.C_drewN ?_ _) | (with_reducible refine Kd.C_drew ?_)));(case side2=>exact HC0.out);rintro e w' ⟨rfl,⟨nd,rfl⟩⟩;refine ⟨_,rfl,?_⟩))
    go_meet
    case rel=>exact ⟨_,(decide ((l2.length : Int) > 200)),(by first | rfl | (simp;done) | (simp [*];done)),H',⟨by first | omega | exact Nat.le_refl _⟩,⟨by (with_reducible repeat (first | refine blk_drewN ?_ _ | refine blk_drew ?_ | refine blk_alloc ?_ _));exact BK347.out⟩,⟨by repeat (first | (with_reducible first | exact HB.out | apply below_alloc | apply pw_below_drewN | apply below_drew1 | refine below_set ?_ GE347.out) | exact HB.out)⟩⟩
   ·replace c13:=Bool.eq_false_iff.mpr c13
    subst c13
    have H1 : (L48_DevicesCurrentSpec.j0 k l0 a1 l2 a4 a5 true a3_0 a3_1)=some r:=by rw [if_neg (show ¬ (false=true) by decide)] at H;exact H
    clear H
    have H:=H1
    clear H1
    have H':=Aside0.mk H
    clear H
    go_wp2_with (first | ((with_reducible refine gate_callee (f:=41) rfl ?_);refine goesL_ (some 30) rfl rfl Tryd.func41 (by kernel_rfl) rfl #[.slice A0 l0.length c0] rfl (by (try simp only [List.map_toArray,List.map_cons,List.map_nil]);first | done | rfl | (simp only [List.length_drop,List.length_take];rfl)) ?_;(with_reducible refine (R48_Few.calls _ _ l0 false _ ?side1 ?side2 A12.out).mono ?_);(case side1=>repeat (first | exact (Kd.C_below HR0.out HB.out) | (with_reducible refine Kd.C_alloc ?_ _) | (with_reducible refine Kd.C_drewN ?_ _) | (with_reducible refine Kd.C_drew ?_)));(case side2=>exact HC0.out);rintro e w' ⟨rfl,⟨nd,rfl⟩⟩;refine ⟨_,rfl,?_⟩))
    go_meet
    case rel=>exact ⟨_,(true),(by first | rfl | (simp;done) | (simp [*];done)),H',⟨by first | omega | exact Nat.le_refl _⟩,⟨by (with_reducible repeat (first | refine blk_drewN ?_ _ | refine blk_drew ?_ | refine blk_alloc ?_ _));exact BK347.out⟩,⟨by repeat (first | (with_reducible first | exact HB.out | apply below_alloc | apply pw_below_drewN | apply below_drew1 | refine below_set ?_ GE347.out) | exact HB.out)⟩⟩
  case rest =>
   clear HC9
   try clear c1
   try clear c2
   try clear p2
   try clear c4
   try clear c8
   try clear c11
   try clear c13
   obtain ⟨kq,x36_8,rfl,HA,HJ8,BK347,HB⟩:=hcut
   cases kq with
   | zero=>exact absurd HA.out (by simp [L48_DevicesCurrentSpec.j0])
   | succ kj8 =>
    have H:=HA.out
    clear HA
    simp only [L48_DevicesCurrentSpec.j0] at H
    by_cases c14 : x36_8=true
    ·subst c14
     have H1 : (some true)=some r:=by rw [if_pos rfl] at H;exact H
     clear H
     have H:=H1
     clear H1
     obtain rfl:=Option.some.inj H
     go_wp2
     go_ret
     exact ⟨by first | rfl | (simp [errW_none,errW_some] <;> rfl) | (simp [*,errW_none,errW_some] <;> rfl),by repeat (first | (with_reducible first | exact HB.out | apply below_alloc | apply pw_below_drewN | apply below_drew1 | refine below_set ?_ GE347.out) | exact HB.out)⟩
    ·replace c14:=Bool.eq_false_iff.mpr c14
     subst c14
     have H1 : ((devices_Current.f l0 a1 a4 a5).bind fun bt350=>((R48_Current.f kj8 l0 a1 a4 a5).bind fun bt354=>((devices_Accepts.f l0 a1 l2 a3_0 a3_1 a4 a5).bind fun bt358=>((R48_Accepts.f kj8 l0 a1 l2 a3_0 a3_1 a4 a5).bind fun bt361=>(if bt350.1=bt354.1 then (if bt350.2.1=bt354.2.1 then (if (bt350.2.2.1 == bt354.2.2.1)=true then (if bt350.2.2.2=bt354.2.2.2 then (if bt358.1=bt361.1 then (if (bt358.2.1 == bt361.2.1)=true then (some (bt358.2.2 == bt361.2.2)) else (some false)) else (some false)) else (some false)) else (some false)) else (some false)) else (some false))))))=some r:=by rw [if_neg (show ¬ (false=true) by decide)] at H;exact H
     clear H
     have H:=H1
     clear H1
     replace H:=Option.bind_eq_some_iff.mp H
     obtain ⟨⟨t350,t351,t352,t353⟩,A150,H⟩:=H
     replace H : ((R48_Current.f kj8 l0 a1 a4 a5).bind fun bt354=>((devices_Accepts.f l0 a1 l2 a3_0 a3_1 a4 a5).bind fun bt358=>((R48_Accepts.f kj8 l0 a1 l2 a3_0 a3_1 a4 a5).bind fun bt361=>(if t350=bt354.1 then (if t351=bt354.2.1 then (if (t352 == bt354.2.2.1)=true then (if t353=bt354.2.2.2 then (if bt358.1=bt361.1 then (if (bt358.2.1 == bt361.2.1)=true then (some (bt358.2.2 == bt361.2.2)) else (some false)) else (some false)) else (some false)) else (some false)) else (some false)) else (some false)))))=some r:=H
     have A15:=Aside0.mk A150
     clear A150
     replace H:=Option.bind_eq_some_iff.mp H
     obtain ⟨⟨t354,t355,t356,t357⟩,A160,H⟩:=H
     replace H : ((devices_Accepts.f l0 a1 l2 a3_0 a3_1 a4 a5).bind fun bt358=>((R48_Accepts.f kj8 l0 a1 l2 a3_0 a3_1 a4 a5).bind fun bt361=>(if t350=t354 then (if t351=t355 then (if (t352 == t356)=true then (if t353=t357 then (if bt358.1=bt361.1 then (if (bt358.2.1 == bt361.2.1)=true then (some (bt358.2.2 == bt361.2.2)) else (some false)) else (some false)) else (some false)) else (some false)) else (some false)) else (some false))))=some r:=H
     have A16:=Aside0.mk A160
     clear A160
     replace H:=Option.bind_eq_some_iff.mp H
     obtain ⟨⟨t358,t359,t360⟩,A170,H⟩:=H
     replace H : ((R48_Accepts.f kj8 l0 a1 l2 a3_0 a3_1 a4 a5).bind fun bt361=>(if t350=t354 then (if t351=t355 then (if (t352 == t356)=true then (if t353=t357 then (if t358=bt361.1 then (if (t359 == bt361.2.1)=true then (some (t360 == bt361.2.2)) else (some false)) else (some false)) else (some false)) else (some false)) else (some false)) else (some false)))=some r:=H
     have A17:=Aside0.mk A170
     clear A170
     replace H:=Option.bind_eq_some_iff.mp H
     obtain ⟨⟨t361,t362,t363⟩,A180,H⟩:=H
     replace H : (if t350=t354 then (if t351=t355 then (if (t352 == t356)=true then (if t353=t357 then (if t358=t361 then (if (t359 == t362)=true then (some (t360 == t363)) else (some false)) else (some false)) else (some false)) else (some false)) else (some false)) else (some false))=some r:=H
     have A18:=Aside0.mk A180
     clear A180
     by_cases c19 : t350=t354
     ·rw [if_pos c19] at H
      have c19b0 : (t350 == t354)=true:=beq_iff_eq.mpr c19
      have c19b1 : (t350 != t354)=false:=bne_eq_false_iff_eq.mpr c19
      clear c19
      by_cases c20 : t351=t355
      ·rw [if_pos c20] at H
       have c20b0 : (t351 == t355)=true:=beq_iff_eq.mpr c20
       have c20b1 : (t351 != t355)=false:=bne_eq_false_iff_eq.mpr c20
       clear c20
       by_cases c21 : (t352 == t356)=true
       ·rw [if_pos c21] at H
        have c21b0 : (t352 == t356)=true:=c21
        (try (have c21b1 : decide (t352=t356)=true:=by simpa using c21))
        (try (have c21b2 : (t352 == t356)=true:=by simpa using c21))
        clear c21
        by_cases c22 : t353=t357
        ·rw [if_pos c22] at H
         have c22b0 : (t353 == t357)=true:=beq_iff_eq.mpr c22
         have c22b1 : (t353 != t357)=false:=bne_eq_false_iff_eq.mpr c22
         clear c22
         by_cases c23 : t358=t361
         ·rw [if_pos c23] at H
          have c23b0 : (t358 == t361)=true:=beq_iff_eq.mpr c23
          have c23b1 : (t358 != t361)=false:=bne_eq_false_iff_eq.mpr c23
          clear c23
          by_cases c24 : (t359 == t362)=true
          ·rw [if_pos c24] at H
           have c24b0 : (t359 == t362)=true:=c24
           (try (have c24b1 : decide (t359=t362)=true:=by simpa using c24))
           (try (have c24b2 : (t359 == t362)=true:=by simpa using c24))
           clear c24
           obtain rfl:=Option.some.inj H
           go_wp2_with (first | ((with_reducible refine gate_callee (f:=47) rfl ?_);refine goesL_ (some 42) rfl rfl Tryd.func47 (by kernel_rfl) rfl #[.slice A0 l0.length c0,.int .i64 a1,.int .i64 a4,.int .i64 a5] rfl (by (try simp only [List.map_toArray,List.map_cons,List.map_nil]);first | done | rfl | (simp only [List.length_drop,List.length_take];rfl)) ?_;(with_reducible refine (devices_Current.calls _ _ l0 a1 a4 a5 t350 t351 t352 t353 _ ?side1 ?side2 A15.out).mono ?_);(case side1=>repeat (first | exact (Kd.C_below HR0.out HB.out) | (with_reducible refine Kd.C_alloc ?_ _) | (with_reducible refine Kd.C_drewN ?_ _) | (with_reducible refine Kd.C_drew ?_)));(case side2=>exact HC0.out);rintro e w25 ⟨rfl,hb⟩;refine ⟨_,rfl,?_⟩;have n0_:=Aside0.mk (blk_below (g:=gb347) (o:=.cells #[.int .i64 a3_0,.int .i64 a3_1] 73 (0,0)) (by (with_reducible repeat (first | refine blk_drewN ?_ _ | refine blk_drew ?_ | refine blk_alloc ?_ _));exact BK347.out) hb);have n1_:=Aside0.mk (below_step (by repeat (first | (with_reducible first | exact HB.out | apply below_alloc | apply pw_below_drewN | apply below_drew1 | refine below_set ?_ GE347.out) | exact HB.out)) hb);clear BK347;clear HB;have BK347:=n0_;have HB:=n1_;clear n0_ n1_;(try clear hb);(try clear hb2);(try clear hk);(try clear hi)) | ((with_reducible refine gate_callee (f:=48) rfl ?_);refine goesL_ (some 52) rfl rfl Tryd.func48 (by kernel_rfl) rfl #[.slice A0 l0.length c0,.int .i64 a1,.int .i64 a4,.int .i64 a5] rfl (by (try simp only [List.map_toArray,List.map_cons,List.map_nil]);first | done | rfl | (simp only [List.length_drop,List.length_take];rfl)) ?_;(with_reducible refine (R48_Current.calls kj8 _ _ l0 a1 a4 a5 t354 t355 t356 t357 _ ?side1 ?side2 A16.out).mono ?_);(case side1=>repeat (first | exact (Kd.C_below HR0.out HB.out) | (with_reducible refine Kd.C_alloc ?_ _) | (with_reducible refine Kd.C_drewN ?_ _) | (with_reducible refine Kd.C_drew ?_)));(case side2=>exact HC0.out);rintro e w26 ⟨rfl,hb⟩;refine ⟨_,rfl,?_⟩;have n0_:=Aside0.mk (blk_below (g:=gb347) (o:=.cells #[.int .i64 a3_0,.int .i64 a3_1] 73 (0,0)) (by (with_reducible repeat (first | refine blk_drewN ?_ _ | refine blk_drew ?_ | refine blk_alloc ?_ _));exact BK347.out) hb);have n1_:=Aside0.mk (below_step (by repeat (first | (with_reducible first | exact HB.out | apply below_alloc | apply pw_below_drewN | apply below_drew1 | refine below_set ?_ GE347.out) | exact HB.out)) hb);clear BK347;clear HB;have BK347:=n0_;have HB:=n1_;clear n0_ n1_;(try clear hb);(try clear hb2);(try clear hk);(try clear hi);have hcz27_0 : w26.cell? ⟨gb347,0,none⟩=some (.int .i64 a3_0):=(blk_cell BK347.out 0).trans rfl;have hcz27_1 : w26.cell? ⟨gb347,1,none⟩=some (.int .i64 a3_1):=(blk_cell BK347.out 1).trans rfl;have hfz27_0:=blk_frozen BK347.out 0;have hfz27_1:=blk_frozen BK347.out 1) | ((with_reducible refine gate_callee (f:=49) rfl ?_);refine goesL_ (some 64) rfl rfl Tryd.func49 (by kernel_rfl) rfl #[.slice A0 l0.length c0,.int .i64 a1,.slice A2 l2.length c2,.agg #[.int .i64 a3_0,.int .i64 a3_1],.int .i64 a4,.int .i64 a5] rfl (by (try simp only [List.map_toArray,List.map_cons,List.map_nil]);first | done | rfl | (simp only [List.length_drop,List.length_take];rfl)) ?_;(with_reducible refine (devices_Accepts.calls (hLd:=?sideL) _ _ l0 a1 _ _ l2 a3_0 a3_1 a4 a5 t358 t359 t360 _ ?side1 ?side2 ?side3 ?side4 A17.out).mono ?_);(case sideL=>exact Go.Proofs.YtjbcfdgnafmbkaaDoor.Cod.Laid.below HLd.out (by repeat (first | (with_reducible first | exact HB.out | apply below_alloc | apply pw_below_drewN | apply below_drew1 | refine below_set ?_ GE347.out) | exact HB.out)));(case side1=>repeat (first | exact (Kd.C_below HR0.out HB.out) | (with_reducible refine Kd.C_alloc ?_ _) | (with_reducible refine Kd.C_drewN ?_ _) | (with_reducible refine Kd.C_drew ?_)));(case side2=>exact HC0.out);(case side3=>repeat (first | exact (Kd.C_below HR2.out HB.out) | (with_reducible refine Kd.C_alloc ?_ _) | (with_reducible refine Kd.C_drewN ?_ _) | (with_reducible refine Kd.C_drew ?_)));(case side4=>exact HC2.out);rintro e w28 ⟨rfl,hb⟩;refine ⟨_,rfl,?_⟩;have n0_:=Aside0.mk (blk_below (g:=gb347) (o:=.cells #[.int .i64 a3_0,.int .i64 a3_1] 73 (0,0)) (by (with_reducible repeat (first | refine blk_drewN ?_ _ | refine blk_drew ?_ | refine blk_alloc ?_ _));exact BK347.out) hb);have n1_:=Aside0.mk (below_step (by repeat (first | (with_reducible first | exact HB.out | apply below_alloc | apply pw_below_drewN | apply below_drew1 | refine below_set ?_ GE347.out) | exact HB.out)) hb);clear BK347;clear HB;have BK347:=n0_;have HB:=n1_;clear n0_ n1_;(try clear hb);(try clear hb2);(try clear hk);(try clear hi);have hcz29_0 : w28.cell? ⟨gb347,0,none⟩=some (.int .i64 a3_0):=(blk_cell BK347.out 0).trans rfl;have hcz29_1 : w28.cell? ⟨gb347,1,none⟩=some (.int .i64 a3_1):=(blk_cell BK347.out 1).trans rfl;have hfz29_0:=blk_frozen BK347.out 0;have hfz29_1:=blk_frozen BK347.out 1) | ((with_reducible refine gate_callee (f:=50) rfl ?_);refine goesL_ (some 75) rfl rfl Tryd.func50 (by kernel_rfl) rfl #[.slice A0 l0.length c0,.int .i64 a1,.slice A2 l2.length c2,.agg #[.int .i64 a3_0,.int .i64 a3_1],.int .i64 a4,.int .i64 a5] rfl (by (try simp only [List.map_toArray,List.map_cons,List.map_nil]);first | done | rfl | (simp only [List.length_drop,List.length_take];rfl)) ?_;(with_reducible refine (R48_Accepts.calls kj8 _ _ l0 a1 _ _ l2 a3_0 a3_1 a4 a5 t361 t362 t363 _ ?side1 ?side2 ?side3 ?side4 A18.out).mono ?_);(case side1=>repeat (first | exact (Kd.C_below HR0.out HB.out) | (with_reducible refine Kd.C_alloc ?_ _) | (with_reducible refine Kd.C_drewN ?_ _) | (with_reducible refine Kd.C_drew ?_)));(case side2=>exact HC0.out);(case side3=>repeat (first | exact (Kd.C_below HR2.out HB.out) | (with_reducible refine Kd.C_alloc ?_ _) | (with_reducible refine Kd.C_drewN ?_ _) | (with_reducible refine Kd.C_drew ?_)));(case side4=>exact HC2.out);rintro e w30 ⟨rfl,hb⟩;refine ⟨_,rfl,?_⟩;have n0_:=Aside0.mk (blk_below (g:=gb347) (o:=.cells #[.int .i64 a3_0,.int .i64 a3_1] 73 (0,0)) (by (with_reducible repeat (first | refine blk_drewN ?_ _ | refine blk_drew ?_ | refine blk_alloc ?_ _));exact BK347.out) hb);have n1_:=Aside0.mk (below_step (by repeat (first | (with_reducible first | exact HB.out | apply below_alloc | apply pw_below_drewN | apply below_drew1 | refine below_set ?_ GE347.out) | exact HB.out)) hb);clear BK347;clear HB;have BK347:=n0_;have HB:=n1_;clear n0_ n1_;(try clear hb);(try clear hb2);(try clear hk);(try clear hi)))
           go_ret
           exact ⟨by first | rfl | (simp [errW_none,errW_some] <;> rfl) | (simp [*,errW_none,errW_some] <;> rfl),by repeat (first | (with_reducible first | exact HB.out | apply below_alloc | apply pw_below_drewN | apply below_drew1 | refine below_set ?_ GE347.out) | exact HB.out)⟩
          ·rw [if_neg c24] at H
           have c24b0 : (t359 == t362)=false:=by simpa using c24
           (try (have c24b1 : decide (t359=t362)=false:=by simpa using c24))
           (try (have c24b2 : (t359 == t362)=false:=by simpa using c24))
           (try (have c24b3 : ¬ (t359=t362):=by simpa using c24))
           clear c24
           obtain rfl:=Option.some.inj H
           go_wp2_with (first | ((with_reducible refine gate_callee (f:=47) rfl ?_);refine goesL_ (some 42) rfl rfl Tryd.func47 (by kernel_rfl) rfl #[.slice A0 l0.length c0,.int .i64 a1,.int .i64 a4,.int .i64 a5] rfl (by (try simp only [List.map_toArray,List.map_cons,List.map_nil]);first | done | rfl | (simp only [List.length_drop,List.length_take];rfl)) ?_;(with_reducible refine (devices_Current.calls _ _ l0 a1 a4 a5 t350 t351 t352 t353 _ ?side1 ?side2 A15.out).mono ?_);(case side1=>repeat (first | exact (Kd.C_below HR0.out HB.out) | (with_reducible refine Kd.C_alloc ?_ _) | (with_reducible refine Kd.C_drewN ?_ _) | (with_reducible refine Kd.C_drew ?_)));(case side2=>exact HC0.out);rintro e w31 ⟨rfl,hb⟩;refine ⟨_,rfl,?_⟩;have n0_:=Aside0.mk (blk_below (g:=gb347) (o:=.cells #[.int .i64 a3_0,.int .i64 a3_1] 73 (0,0)) (by (with_reducible repeat (first | refine blk_drewN ?_ _ | refine blk_drew ?_ | refine blk_alloc ?_ _));exact BK347.out) hb);have n1_:=Aside0.mk (below_step (by repeat (first | (with_reducible first | exact HB.out | apply below_alloc | apply pw_below_drewN | apply below_drew1 | refine below_set ?_ GE347.out) | exact HB.out)) hb);clear BK347;clear HB;have BK347:=n0_;have HB:=n1_;clear n0_ n1_;(try clear hb);(try clear hb2);(try clear hk);(try clear hi)) | ((with_reducible refine gate_callee (f:=48) rfl ?_);refine goesL_ (some 52) rfl rfl Tryd.func48 (by kernel_rfl) rfl #[.slice A0 l0.length c0,.int .i64 a1,.int .i64 a4,.int .i64 a5] rfl (by (try simp only [List.map_toArray,List.map_cons,List.map_nil]);first | done | rfl | (simp only [List.length_drop,List.length_take];rfl)) ?_;(with_reducible refine (R48_Current.calls kj8 _ _ l0 a1 a4 a5 t354 t355 t356 t357 _ ?side1 ?side2 A16.out).mono ?_);(case side1=>repeat (first | exact (Kd.C_below HR0.out HB.out) | (with_reducible refine Kd.C_alloc ?_ _) | (with_reducible refine Kd.C_drewN ?_ _) | (with_reducible refine Kd.C_drew ?_)));(case side2=>exact HC0.out);rintro e w32 ⟨rfl,hb⟩;refine ⟨_,rfl,?_⟩;have n0_:=Aside0.mk (blk_below (g:=gb347) (o:=.cells #[.int .i64 a3_0,.int .i64 a3_1] 73 (0,0)) (by (with_reducible repeat (first | refine blk_drewN ?_ _ | refine blk_drew ?_ | refine blk_alloc ?_ _));exact BK347.out) hb);have n1_:=Aside0.mk (below_step (by repeat (first | (with_reducible first | exact HB.out | apply below_alloc | apply pw_below_drewN | apply below_drew1 | refine below_set ?_ GE347.out) | exact HB.out)) hb);clear BK347;clear HB;have BK347:=n0_;have HB:=n1_;clear n0_ n1_;(try clear hb);(try clear hb2);(try clear hk);(try clear hi);have hcz33_0 : w32.cell? ⟨gb347,0,none⟩=some (.int .i64 a3_0):=(blk_cell BK347.out 0).trans rfl;have hcz33_1 : w32.cell? ⟨gb347,1,none⟩=some (.int .i64 a3_1):=(blk_cell BK347.out 1).trans rfl;have hfz33_0:=blk_frozen BK347.out 0;have hfz33_1:=blk_frozen BK347.out 1) | ((with_reducible refine gate_callee (f:=49) rfl ?_);refine goesL_ (some 64) rfl rfl Tryd.func49 (by kernel_rfl) rfl #[.slice A0 l0.length c0,.int .i64 a1,.slice A2 l2.length c2,.agg #[.int .i64 a3_0,.int .i64 a3_1],.int .i64 a4,.int .i64 a5] rfl (by (try simp only [List.map_toArray,List.map_cons,List.map_nil]);first | done | rfl | (simp only [List.length_drop,List.length_take];rfl)) ?_;(with_reducible refine (devices_Accepts.calls (hLd:=?sideL) _ _ l0 a1 _ _ l2 a3_0 a3_1 a4 a5 t358 t359 t360 _ ?side1 ?side2 ?side3 ?side4 A17.out).mono ?_);(case sideL=>exact Go.Proofs.YtjbcfdgnafmbkaaDoor.Cod.Laid.below HLd.out (by repeat (first | (with_reducible first | exact HB.out | apply below_alloc | apply pw_below_drewN | apply below_drew1 | refine below_set ?_ GE347.out) | exact HB.out)));(case side1=>repeat (first | exact (Kd.C_below HR0.out HB.out) | (with_reducible refine Kd.C_alloc ?_ _) | (with_reducible refine Kd.C_drewN ?_ _) | (with_reducible refine Kd.C_drew ?_)));(case side2=>exact HC0.out);(case side3=>repeat (first | exact (Kd.C_below HR2.out HB.out) | (with_reducible refine Kd.C_alloc ?_ _) | (with_reducible refine Kd.C_drewN ?_ _) | (with_reducible refine Kd.C_drew ?_)));(case side4=>exact HC2.out);rintro e w34 ⟨rfl,hb⟩;refine ⟨_,rfl,?_⟩;have n0_:=Aside0.mk (blk_below (g:=gb347) (o:=.cells #[.int .i64 a3_0,.int .i64 a3_1] 73 (0,0)) (by (with_reducible repeat (first | refine blk_drewN ?_ _ | refine blk_drew ?_ | refine blk_alloc ?_ _));exact BK347.out) hb);have n1_:=Aside0.mk (below_step (by repeat (first | (with_reducible first | exact HB.out | apply below_alloc | apply pw_below_drewN | apply below_drew1 | refine below_set ?_ GE347.out) | exact HB.out)) hb);clear BK347;clear HB;have BK347:=n0_;have HB:=n1_;clear n0_ n1_;(try clear hb);(try clear hb2);(try clear hk);(try clear hi);have hcz35_0 : w34.cell? ⟨gb347,0,none⟩=some (.int .i64 a3_0):=(blk_cell BK347.out 0).trans rfl;have hcz35_1 : w34.cell? ⟨gb347,1,none⟩=some (.int .i64 a3_1):=(blk_cell BK347.out 1).trans rfl;have hfz35_0:=blk_frozen BK347.out 0;have hfz35_1:=blk_frozen BK347.out 1) | ((with_reducible refine gate_callee (f:=50) rfl ?_);refine goesL_ (some 75) rfl rfl Tryd.func50 (by kernel_rfl) rfl #[.slice A0 l0.length c0,.int .i64 a1,.slice A2 l2.length c2,.agg #[.int .i64 a3_0,.int .i64 a3_1],.int .i64 a4,.int .i64 a5] rfl (by (try simp only [List.map_toArray,List.map_cons,List.map_nil]);first | done | rfl | (simp only [List.length_drop,List.length_take];rfl)) ?_;(with_reducible refine (R48_Accepts.calls kj8 _ _ l0 a1 _ _ l2 a3_0 a3_1 a4 a5 t361 t362 t363 _ ?side1 ?side2 ?side3 ?side4 A18.out).mono ?_);(case side1=>repeat (first | exact (Kd.C_below HR0.out HB.out) | (with_reducible refine Kd.C_alloc ?_ _) | (with_reducible refine Kd.C_drewN ?_ _) | (with_reducible refine Kd.C_drew ?_)));(case side2=>exact HC0.out);(case side3=>repeat (first | exact (Kd.C_below HR2.out HB.out) | (with_reducible refine Kd.C_alloc ?_ _) | (with_reducible refine Kd.C_drewN ?_ _) | (with_reducible refine Kd.C_drew ?_)));(case side4=>exact HC2.out);rintro e w36 ⟨rfl,hb⟩;refine ⟨_,rfl,?_⟩;have n0_:=Aside0.mk (blk_below (g:=gb347) (o:=.cells #[.int .i64 a3_0,.int .i64 a3_1] 73 (0,0)) (by (with_reducible repeat (first | refine blk_drewN ?_ _ | refine blk_drew ?_ | refine blk_alloc ?_ _));exact BK347.out) hb);have n1_:=Aside0.mk (below_step (by repeat (first | (with_reducible first | exact HB.out | apply below_alloc | apply pw_below_drewN | apply below_drew1 | refine below_set ?_ GE347.out) | exact HB.out)) hb);clear BK347;clear HB;have BK347:=n0_;have HB:=n1_;clear n0_ n1_;(try clear hb);(try clear hb2);(try clear hk);(try clear hi)))
           go_ret
           exact ⟨by first | rfl | (simp [errW_none,errW_some] <;> rfl) | (simp [*,errW_none,errW_some] <;> rfl),by repeat (first | (with_reducible first | exact HB.out | apply below_alloc | apply pw_below_drewN | apply below_drew1 | refine below_set ?_ GE347.out) | exact HB.out)⟩
         ·rw [if_neg c23] at H
          have c23b0 : (t358 == t361)=false:=beq_eq_false_iff_ne.mpr c23
          have c23b1 : (t358 != t361)=true:=bne_iff_ne.mpr c23
          obtain rfl:=Option.some.inj H
          go_wp2_with (first | ((with_reducible refine gate_callee (f:=47) rfl ?_);refine goesL_ (some 42) rfl rfl Tryd.func47 (by kernel_rfl) rfl #[.slice A0 l0.length c0,.int .i64 a1,.int .i64 a4,.int .i64 a5] rfl (by (try simp only [List.map_toArray,List.map_cons,List.map_nil]);first | done | rfl | (simp only [List.length_drop,List.length_take];rfl)) ?_;(with_reducible refine (devices_Current.calls _ _ l0 a1 a4 a5 t350 t351 t352 t353 _ ?side1 ?side2 A15.out).mono ?_);(case side1=>repeat (first | exact (Kd.C_below HR0.out HB.out) | (with_reducible refine Kd.C_alloc ?_ _) | (with_reducible refine Kd.C_drewN ?_ _) | (with_reducible refine Kd.C_drew ?_)));(case side2=>exact HC0.out);rintro e w37 ⟨rfl,hb⟩;refine ⟨_,rfl,?_⟩;have n0_:=Aside0.mk (blk_below (g:=gb347) (o:=.cells #[.int .i64 a3_0,.int .i64 a3_1] 73 (0,0)) (by (with_reducible repeat (first | refine blk_drewN ?_ _ | refine blk_drew ?_ | refine blk_alloc ?_ _));exact BK347.out) hb);have n1_:=Aside0.mk (below_step (by repeat (first | (with_reducible first | exact HB.out | apply below_alloc | apply pw_below_drewN | apply below_drew1 | refine below_set ?_ GE347.out) | exact HB.out)) hb);clear BK347;clear HB;have BK347:=n0_;have HB:=n1_;clear n0_ n1_;(try clear hb);(try clear hb2);(try clear hk);(try clear hi)) | ((with_reducible refine gate_callee (f:=48) rfl ?_);refine goesL_ (some 52) rfl rfl Tryd.func48 (by kernel_rfl) rfl #[.slice A0 l0.length c0,.int .i64 a1,.int .i64 a4,.int .i64 a5] rfl (by (try simp only [List.map_toArray,List.map_cons,List.map_nil]);first | done | rfl | (simp only [List.length_drop,List.length_take];rfl)) ?_;(with_reducible refine (R48_Current.calls kj8 _ _ l0 a1 a4 a5 t354 t355 t356 t357 _ ?side1 ?side2 A16.out).mono ?_);(case side1=>repeat (first | exact (Kd.C_below HR0.out HB.out) | (with_reducible refine Kd.C_alloc ?_ _) | (with_reducible refine Kd.C_drewN ?_ _) | (with_reducible refine Kd.C_drew ?_)));(case side2=>exact HC0.out);rintro e w38 ⟨rfl,hb⟩;refine ⟨_,rfl,?_⟩;have n0_:=Aside0.mk (blk_below (g:=gb347) (o:=.cells #[.int .i64 a3_0,.int .i64 a3_1] 73 (0,0)) (by (with_reducible repeat (first | refine blk_drewN ?_ _ | refine blk_drew ?_ | refine blk_alloc ?_ _));exact BK347.out) hb);have n1_:=Aside0.mk (below_step (by repeat (first | (with_reducible first | exact HB.out | apply below_alloc | apply pw_below_drewN | apply below_drew1 | refine below_set ?_ GE347.out) | exact HB.out)) hb);clear BK347;clear HB;have BK347:=n0_;have HB:=n1_;clear n0_ n1_;(try clear hb);(try clear hb2);(try clear hk);(try clear hi);have hcz39_0 : w38.cell? ⟨gb347,0,none⟩=some (.int .i64 a3_0):=(blk_cell BK347.out 0).trans rfl;have hcz39_1 : w38.cell? ⟨gb347,1,none⟩=some (.int .i64 a3_1):=(blk_cell BK347.out 1).trans rfl;have hfz39_0:=blk_frozen BK347.out 0;have hfz39_1:=blk_frozen BK347.out 1) | ((with_reducible refine gate_callee (f:=49) rfl ?_);refine goesL_ (some 64) rfl rfl Tryd.func49 (by kernel_rfl) rfl #[.slice A0 l0.length c0,.int .i64 a1,.slice A2 l2.length c2,.agg #[.int .i64 a3_0,.int .i64 a3_1],.int .i64 a4,.int .i64 a5] rfl (by (try simp only [List.map_toArray,List.map_cons,List.map_nil]);first | done | rfl | (simp only [List.length_drop,List.length_take];rfl)) ?_;(with_reducible refine (devices_Accepts.calls (hLd:=?sideL) _ _ l0 a1 _ _ l2 a3_0 a3_1 a4 a5 t358 t359 t360 _ ?side1 ?side2 ?side3 ?side4 A17.out).mono ?_);(case sideL=>exact Go.Proofs.YtjbcfdgnafmbkaaDoor.Cod.Laid.below HLd.out (by repeat (first | (with_reducible first | exact HB.out | apply below_alloc | apply pw_below_drewN | apply below_drew1 | refine below_set ?_ GE347.out) | exact HB.out)));(case side1=>repeat (first | exact (Kd.C_below HR0.out HB.out) | (with_reducible refine Kd.C_alloc ?_ _) | (with_reducible refine Kd.C_drewN ?_ _) | (with_reducible refine Kd.C_drew ?_)));(case side2=>exact HC0.out);(case side3=>repeat (first | exact (Kd.C_below HR2.out HB.out) | (with_reducible refine Kd.C_alloc ?_ _) | (with_reducible refine Kd.C_drewN ?_ _) | (with_reducible refine Kd.C_drew ?_)));(case side4=>exact HC2.out);rintro e w40 ⟨rfl,hb⟩;refine ⟨_,rfl,?_⟩;have n0_:=Aside0.mk (blk_below (g:=gb347) (o:=.cells #[.int .i64 a3_0,.int .i64 a3_1] 73 (0,0)) (by (with_reducible repeat (first | refine blk_drewN ?_ _ | refine blk_drew ?_ | refine blk_alloc ?_ _));exact BK347.out) hb);have n1_:=Aside0.mk (below_step (by repeat (first | (with_reducible first | exact HB.out | apply below_alloc | apply pw_below_drewN | apply below_drew1 | refine below_set ?_ GE347.out) | exact HB.out)) hb);clear BK347;clear HB;have BK347:=n0_;have HB:=n1_;clear n0_ n1_;(try clear hb);(try clear hb2);(try clear hk);(try clear hi);have hcz41_0 : w40.cell? ⟨gb347,0,none⟩=some (.int .i64 a3_0):=(blk_cell BK347.out 0).trans rfl;have hcz41_1 : w40.cell? ⟨gb347,1,none⟩=some (.int .i64 a3_1):=(blk_cell BK347.out 1).trans rfl;have hfz41_0:=blk_frozen BK347.out 0;have hfz41_1:=blk_frozen BK347.out 1) | ((with_reducible refine gate_callee (f:=50) rfl ?_);refine goesL_ (some 75) rfl rfl Tryd.func50 (by kernel_rfl) rfl #[.slice A0 l0.length c0,.int .i64 a1,.slice A2 l2.length c2,.agg #[.int .i64 a3_0,.int .i64 a3_1],.int .i64 a4,.int .i64 a5] rfl (by (try simp only [List.map_toArray,List.map_cons,List.map_nil]);first | done | rfl | (simp only [List.length_drop,List.length_take];rfl)) ?_;(with_reducible refine (R48_Accepts.calls kj8 _ _ l0 a1 _ _ l2 a3_0 a3_1 a4 a5 t361 t362 t363 _ ?side1 ?side2 ?side3 ?side4 A18.out).mono ?_);(case side1=>repeat (first | exact (Kd.C_below HR0.out HB.out) | (with_reducible refine Kd.C_alloc ?_ _) | (with_reducible refine Kd.C_drewN ?_ _) | (with_reducible refine Kd.C_drew ?_)));(case side2=>exact HC0.out);(case side3=>repeat (first | exact (Kd.C_below HR2.out HB.out) | (with_reducible refine Kd.C_alloc ?_ _) | (with_reducible refine Kd.C_drewN ?_ _) | (with_reducible refine Kd.C_drew ?_)));(case side4=>exact HC2.out);rintro e w42 ⟨rfl,hb⟩;refine ⟨_,rfl,?_⟩;have n0_:=Aside0.mk (blk_below (g:=gb347) (o:=.cells #[.int .i64 a3_0,.int .i64 a3_1] 73 (0,0)) (by (with_reducible repeat (first | refine blk_drewN ?_ _ | refine blk_drew ?_ | refine blk_alloc ?_ _));exact BK347.out) hb);have n1_:=Aside0.mk (below_step (by repeat (first | (with_reducible first | exact HB.out | apply below_alloc | apply pw_below_drewN | apply below_drew1 | refine below_set ?_ GE347.out) | exact HB.out)) hb);clear BK347;clear HB;have BK347:=n0_;have HB:=n1_;clear n0_ n1_;(try clear hb);(try clear hb2);(try clear hk);(try clear hi)))
          go_ret
          exact ⟨by first | rfl | (simp [errW_none,errW_some] <;> rfl) | (simp [*,errW_none,errW_some] <;> rfl),by repeat (first | (with_reducible first | exact HB.out | apply below_alloc | apply pw_below_drewN | apply below_drew1 | refine below_set ?_ GE347.out) | exact HB.out)⟩
        ·rw [if_neg c22] at H
         have c22b0 : (t353 == t357)=false:=beq_eq_false_iff_ne.mpr c22
         have c22b1 : (t353 != t357)=true:=bne_iff_ne.mpr c22
         obtain rfl:=Option.some.inj H
         go_wp2_with (first | ((with_reducible refine gate_callee (f:=47) rfl ?_);refine goesL_ (some 42) rfl rfl Tryd.func47 (by kernel_rfl) rfl #[.slice A0 l0.length c0,.int .i64 a1,.int .i64 a4,.int .i64 a5] rfl (by (try simp only [List.map_toArray,List.map_cons,List.map_nil]);first | done | rfl | (simp only [List.length_drop,List.length_take];rfl)) ?_;(with_reducible refine (devices_Current.calls _ _ l0 a1 a4 a5 t350 t351 t352 t353 _ ?side1 ?side2 A15.out).mono ?_);(case side1=>repeat (first | exact (Kd.C_below HR0.out HB.out) | (with_reducible refine Kd.C_alloc ?_ _) | (with_reducible refine Kd.C_drewN ?_ _) | (with_reducible refine Kd.C_drew ?_)));(case side2=>exact HC0.out);rintro e w43 ⟨rfl,hb⟩;refine ⟨_,rfl,?_⟩;have n0_:=Aside0.mk (blk_below (g:=gb347) (o:=.cells #[.int .i64 a3_0,.int .i64 a3_1] 73 (0,0)) (by (with_reducible repeat (first | refine blk_drewN ?_ _ | refine blk_drew ?_ | refine blk_alloc ?_ _));exact BK347.out) hb);have n1_:=Aside0.mk (below_step (by repeat (first | (with_reducible first | exact HB.out | apply below_alloc | apply pw_below_drewN | apply below_drew1 | refine below_set ?_ GE347.out) | exact HB.out)) hb);clear BK347;clear HB;have BK347:=n0_;have HB:=n1_;clear n0_ n1_;(try clear hb);(try clear hb2);(try clear hk);(try clear hi)) | ((with_reducible refine gate_callee (f:=48) rfl ?_);refine goesL_ (some 52) rfl rfl Tryd.func48 (by kernel_rfl) rfl #[.slice A0 l0.length c0,.int .i64 a1,.int .i64 a4,.int .i64 a5] rfl (by (try simp only [List.map_toArray,List.map_cons,List.map_nil]);first | done | rfl | (simp only [List.length_drop,List.length_take];rfl)) ?_;(with_reducible refine (R48_Current.calls kj8 _ _ l0 a1 a4 a5 t354 t355 t356 t357 _ ?side1 ?side2 A16.out).mono ?_);(case side1=>repeat (first | exact (Kd.C_below HR0.out HB.out) | (with_reducible refine Kd.C_alloc ?_ _) | (with_reducible refine Kd.C_drewN ?_ _) | (with_reducible refine Kd.C_drew ?_)));(case side2=>exact HC0.out);rintro e w44 ⟨rfl,hb⟩;refine ⟨_,rfl,?_⟩;have n0_:=Aside0.mk (blk_below (g:=gb347) (o:=.cells #[.int .i64 a3_0,.int .i64 a3_1] 73 (0,0)) (by (with_reducible repeat (first | refine blk_drewN ?_ _ | refine blk_drew ?_ | refine blk_alloc ?_ _));exact BK347.out) hb);have n1_:=Aside0.mk (below_step (by repeat (first | (with_reducible first | exact HB.out | apply below_alloc | apply pw_below_drewN | apply below_drew1 | refine below_set ?_ GE347.out) | exact HB.out)) hb);clear BK347;clear HB;have BK347:=n0_;have HB:=n1_;clear n0_ n1_;(try clear hb);(try clear hb2);(try clear hk);(try clear hi);have hcz45_0 : w44.cell? ⟨gb347,0,none⟩=some (.int .i64 a3_0):=(blk_cell BK347.out 0).trans rfl;have hcz45_1 : w44.cell? ⟨gb347,1,none⟩=some (.int .i64 a3_1):=(blk_cell BK347.out 1).trans rfl;have hfz45_0:=blk_frozen BK347.out 0;have hfz45_1:=blk_frozen BK347.out 1) | ((with_reducible refine gate_callee (f:=49) rfl ?_);refine goesL_ (some 64) rfl rfl Tryd.func49 (by kernel_rfl) rfl #[.slice A0 l0.length c0,.int .i64 a1,.slice A2 l2.length c2,.agg #[.int .i64 a3_0,.int .i64 a3_1],.int .i64 a4,.int .i64 a5] rfl (by (try simp only [List.map_toArray,List.map_cons,List.map_nil]);first | done | rfl | (simp only [List.length_drop,List.length_take];rfl)) ?_;(with_reducible refine (devices_Accepts.calls (hLd:=?sideL) _ _ l0 a1 _ _ l2 a3_0 a3_1 a4 a5 t358 t359 t360 _ ?side1 ?side2 ?side3 ?side4 A17.out).mono ?_);(case sideL=>exact Go.Proofs.YtjbcfdgnafmbkaaDoor.Cod.Laid.below HLd.out (by repeat (first | (with_reducible first | exact HB.out | apply below_alloc | apply pw_below_drewN | apply below_drew1 | refine below_set ?_ GE347.out) | exact HB.out)));(case side1=>repeat (first | exact (Kd.C_below HR0.out HB.out) | (with_reducible refine Kd.C_alloc ?_ _) | (with_reducible refine Kd.C_drewN ?_ _) | (with_reducible refine Kd.C_drew ?_)));(case side2=>exact HC0.out);(case side3=>repeat (first | exact (Kd.C_below HR2.out HB.out) | (with_reducible refine Kd.C_alloc ?_ _) | (with_reducible refine Kd.C_drewN ?_ _) | (with_reducible refine Kd.C_drew ?_)));(case side4=>exact HC2.out);rintro e w46 ⟨rfl,hb⟩;refine ⟨_,rfl,?_⟩;have n0_:=Aside0.mk (blk_below (g:=gb347) (o:=.cells #[.int .i64 a3_0,.int .i64 a3_1] 73 (0,0)) (by (with_reducible repeat (first | refine blk_drewN ?_ _ | refine blk_drew ?_ | refine blk_alloc ?_ _));exact BK347.out) hb);have n1_:=Aside0.mk (below_step (by repeat (first | (with_reducible first | exact HB.out | apply below_alloc | apply pw_below_drewN | apply below_drew1 | refine below_set ?_ GE347.out) | exact HB.out)) hb);clear BK347;clear HB;have BK347:=n0_;have HB:=n1_;clear n0_ n1_;(try clear hb);(try clear hb2);(try clear hk);(try clear hi);have hcz47_0 : w46.cell? ⟨gb347,0,none⟩=some (.int .i64 a3_0):=(blk_cell BK347.out 0).trans rfl;have hcz47_1 : w46.cell? ⟨gb347,1,none⟩=some (.int .i64 a3_1):=(blk_cell BK347.out 1).trans rfl;have hfz47_0:=blk_frozen BK347.out 0;have hfz47_1:=blk_frozen BK347.out 1) | ((with_reducible refine gate_callee (f:=50) rfl ?_);refine goesL_ (some 75) rfl rfl Tryd.func50 (by kernel_rfl) rfl #[.slice A0 l0.length c0,.int .i64 a1,.slice A2 l2.length c2,.agg #[.int .i64 a3_0,.int .i64 a3_1],.int .i64 a4,.int .i64 a5] rfl (by (try simp only [List.map_toArray,List.map_cons,List.map_nil]);first | done | rfl | (simp only [List.length_drop,List.length_take];rfl)) ?_;(with_reducible refine (R48_Accepts.calls kj8 _ _ l0 a1 _ _ l2 a3_0 a3_1 a4 a5 t361 t362 t363 _ ?side1 ?side2 ?side3 ?side4 A18.out).mono ?_);(case side1=>repeat (first | exact (Kd.C_below HR0.out HB.out) | (with_reducible refine Kd.C_alloc ?_ _) | (with_reducible refine Kd.C_drewN ?_ _) | (with_reducible refine Kd.C_drew ?_)));(case side2=>exact HC0.out);(case side3=>repeat (first | exact (Kd.C_below HR2.out HB.out) | (with_reducible refine Kd.C_alloc ?_ _) | (with_reducible refine Kd.C_drewN ?_ _) | (with_reducible refine Kd.C_drew ?_)));(case side4=>exact HC2.out);rintro e w48 ⟨rfl,hb⟩;refine ⟨_,rfl,?_⟩;have n0_:=Aside0.mk (blk_below (g:=gb347) (o:=.cells #[.int .i64 a3_0,.int .i64 a3_1] 73 (0,0)) (by (with_reducible repeat (first | refine blk_drewN ?_ _ | refine blk_drew ?_ | refine blk_alloc ?_ _));exact BK347.out) hb);have n1_:=Aside0.mk (below_step (by repeat (first | (with_reducible first | exact HB.out | apply below_alloc | apply pw_below_drewN | apply below_drew1 | refine below_set ?_ GE347.out) | exact HB.out)) hb);clear BK347;clear HB;have BK347:=n0_;have HB:=n1_;clear n0_ n1_;(try clear hb);(try clear hb2);(try clear hk);(try clear hi)))
         go_ret
         exact ⟨by first | rfl | (simp [errW_none,errW_some] <;> rfl) | (simp [*,errW_none,errW_some] <;> rfl),by repeat (first | (with_reducible first | exact HB.out | apply below_alloc | apply pw_below_drewN | apply below_drew1 | refine below_set ?_ GE347.out) | exact HB.out)⟩
       ·rw [if_neg c21] at H
        have c21b0 : (t352 == t356)=false:=by simpa using c21
        (try (have c21b1 : decide (t352=t356)=false:=by simpa using c21))
        (try (have c21b2 : (t352 == t356)=false:=by simpa using c21))
        (try (have c21b3 : ¬ (t352=t356):=by simpa using c21))
        clear c21
        obtain rfl:=Option.some.inj H
        go_wp2_with (first | ((with_reducible refine gate_callee (f:=47) rfl ?_);refine goesL_ (some 42) rfl rfl Tryd.func47 (by kernel_rfl) rfl #[.slice A0 l0.length c0,.int .i64 a1,.int .i64 a4,.int .i64 a5] rfl (by (try simp only [List.map_toArray,List.map_cons,List.map_nil]);first | done | rfl | (simp only [List.length_drop,List.length_take];rfl)) ?_;(with_reducible refine (devices_Current.calls _ _ l0 a1 a4 a5 t350 t351 t352 t353 _ ?side1 ?side2 A15.out).mono ?_);(case side1=>repeat (first | exact (Kd.C_below HR0.out HB.out) | (with_reducible refine Kd.C_alloc ?_ _) | (with_reducible refine Kd.C_drewN ?_ _) | (with_reducible refine Kd.C_drew ?_)));(case side2=>exact HC0.out);rintro e w49 ⟨rfl,hb⟩;refine ⟨_,rfl,?_⟩;have n0_:=Aside0.mk (blk_below (g:=gb347) (o:=.cells #[.int .i64 a3_0,.int .i64 a3_1] 73 (0,0)) (by (with_reducible repeat (first | refine blk_drewN ?_ _ | refine blk_drew ?_ | refine blk_alloc ?_ _));exact BK347.out) hb);have n1_:=Aside0.mk (below_step (by repeat (first | (with_reducible first | exact HB.out | apply below_alloc | apply pw_below_drewN | apply below_drew1 | refine below_set ?_ GE347.out) | exact HB.out)) hb);clear BK347;clear HB;have BK347:=n0_;have HB:=n1_;clear n0_ n1_;(try clear hb);(try clear hb2);(try clear hk);(try clear hi)) | ((with_reducible refine gate_callee (f:=48) rfl ?_);refine goesL_ (some 52) rfl rfl Tryd.func48 (by kernel_rfl) rfl #[.slice A0 l0.length c0,.int .i64 a1,.int .i64 a4,.int .i64 a5] rfl (by (try simp only [List.map_toArray,List.map_cons,List.map_nil]);first | done | rfl | (simp only [List.length_drop,List.length_take];rfl)) ?_;(with_reducible refine (R48_Current.calls kj8 _ _ l0 a1 a4 a5 t354 t355 t356 t357 _ ?side1 ?side2 A16.out).mono ?_);(case side1=>repeat (first | exact (Kd.C_below HR0.out HB.out) | (with_reducible refine Kd.C_alloc ?_ _) | (with_reducible refine Kd.C_drewN ?_ _) | (with_reducible refine Kd.C_drew ?_)));(case side2=>exact HC0.out);rintro e w50 ⟨rfl,hb⟩;refine ⟨_,rfl,?_⟩;have n0_:=Aside0.mk (blk_below (g:=gb347) (o:=.cells #[.int .i64 a3_0,.int .i64 a3_1] 73 (0,0)) (by (with_reducible repeat (first | refine blk_drewN ?_ _ | refine blk_drew ?_ | refine blk_alloc ?_ _));exact BK347.out) hb);have n1_:=Aside0.mk (below_step (by repeat (first | (with_reducible first | exact HB.out | apply below_alloc | apply pw_below_drewN | apply below_drew1 | refine below_set ?_ GE347.out) | exact HB.out)) hb);clear BK347;clear HB;have BK347:=n0_;have HB:=n1_;clear n0_ n1_;(try clear hb);(try clear hb2);(try clear hk);(try clear hi);have hcz51_0 : w50.cell? ⟨gb347,0,none⟩=some (.int .i64 a3_0):=(blk_cell BK347.out 0).trans rfl;have hcz51_1 : w50.cell? ⟨gb347,1,none⟩=some (.int .i64 a3_1):=(blk_cell BK347.out 1).trans rfl;have hfz51_0:=blk_frozen BK347.out 0;have hfz51_1:=blk_frozen BK347.out 1) | ((with_reducible refine gate_callee (f:=49) rfl ?_);refine goesL_ (some 64) rfl rfl Tryd.func49 (by kernel_rfl) rfl #[.slice A0 l0.length c0,.int .i64 a1,.slice A2 l2.length c2,.agg #[.int .i64 a3_0,.int .i64 a3_1],.int .i64 a4,.int .i64 a5] rfl (by (try simp only [List.map_toArray,List.map_cons,List.map_nil]);first | done | rfl | (simp only [List.length_drop,List.length_take];rfl)) ?_;(with_reducible refine (devices_Accepts.calls (hLd:=?sideL) _ _ l0 a1 _ _ l2 a3_0 a3_1 a4 a5 t358 t359 t360 _ ?side1 ?side2 ?side3 ?side4 A17.out).mono ?_);(case sideL=>exact Go.Proofs.YtjbcfdgnafmbkaaDoor.Cod.Laid.below HLd.out (by repeat (first | (with_reducible first | exact HB.out | apply below_alloc | apply pw_below_drewN | apply below_drew1 | refine below_set ?_ GE347.out) | exact HB.out)));(case side1=>repeat (first | exact (Kd.C_below HR0.out HB.out) | (with_reducible refine Kd.C_alloc ?_ _) | (with_reducible refine Kd.C_drewN ?_ _) | (with_reducible refine Kd.C_drew ?_)));(case side2=>exact HC0.out);(case side3=>repeat (first | exact (Kd.C_below HR2.out HB.out) | (with_reducible refine Kd.C_alloc ?_ _) | (with_reducible refine Kd.C_drewN ?_ _) | (with_reducible refine Kd.C_drew ?_)));(case side4=>exact HC2.out);rintro e w52 ⟨rfl,hb⟩;refine ⟨_,rfl,?_⟩;have n0_:=Aside0.mk (blk_below (g:=gb347) (o:=.cells #[.int .i64 a3_0,.int .i64 a3_1] 73 (0,0)) (by (with_reducible repeat (first | refine blk_drewN ?_ _ | refine blk_drew ?_ | refine blk_alloc ?_ _));exact BK347.out) hb);have n1_:=Aside0.mk (below_step (by repeat (first | (with_reducible first | exact HB.out | apply below_alloc | apply pw_below_drewN | apply below_drew1 | refine below_set ?_ GE347.out) | exact HB.out)) hb);clear BK347;clear HB;have BK347:=n0_;have HB:=n1_;clear n0_ n1_;(try clear hb);(try clear hb2);(try clear hk);(try clear hi);have hcz53_0 : w52.cell? ⟨gb347,0,none⟩=some (.int .i64 a3_0):=(blk_cell BK347.out 0).trans rfl;have hcz53_1 : w52.cell? ⟨gb347,1,none⟩=some (.int .i64 a3_1):=(blk_cell BK347.out 1).trans rfl;have hfz53_0:=blk_frozen BK347.out 0;have hfz53_1:=blk_frozen BK347.out 1) | ((with_reducible refine gate_callee (f:=50) rfl ?_);refine goesL_ (some 75) rfl rfl Tryd.func50 (by kernel_rfl) rfl #[.slice A0 l0.length c0,.int .i64 a1,.slice A2 l2.length c2,.agg #[.int .i64 a3_0,.int .i64 a3_1],.int .i64 a4,.int .i64 a5] rfl (by (try simp only [List.map_toArray,List.map_cons,List.map_nil]);first | done | rfl | (simp only [List.length_drop,List.length_take];rfl)) ?_;(with_reducible refine (R48_Accepts.calls kj8 _ _ l0 a1 _ _ l2 a3_0 a3_1 a4 a5 t361 t362 t363 _ ?side1 ?side2 ?side3 ?side4 A18.out).mono ?_);(case side1=>repeat (first | exact (Kd.C_below HR0.out HB.out) | (with_reducible refine Kd.C_alloc ?_ _) | (with_reducible refine Kd.C_drewN ?_ _) | (with_reducible refine Kd.C_drew ?_)));(case side2=>exact HC0.out);(case side3=>repeat (first | exact (Kd.C_below HR2.out HB.out) | (with_reducible refine Kd.C_alloc ?_ _) | (with_reducible refine Kd.C_drewN ?_ _) | (with_reducible refine Kd.C_drew ?_)));(case side4=>exact HC2.out);rintro e w54 ⟨rfl,hb⟩;refine ⟨_,rfl,?_⟩;have n0_:=Aside0.mk (blk_below (g:=gb347) (o:=.cells #[.int .i64 a3_0,.int .i64 a3_1] 73 (0,0)) (by (with_reducible repeat (first | refine blk_drewN ?_ _ | refine blk_drew ?_ | refine blk_alloc ?_ _));exact BK347.out) hb);have n1_:=Aside0.mk (below_step (by repeat (first | (with_reducible first | exact HB.out | apply below_alloc | apply pw_below_drewN | apply below_drew1 | refine below_set ?_ GE347.out) | exact HB.out)) hb);clear BK347;clear HB;have BK347:=n0_;have HB:=n1_;clear n0_ n1_;(try clear hb);(try clear hb2);(try clear hk);(try clear hi)))
        go_ret
        exact ⟨by first | rfl | (simp [errW_none,errW_some] <;> rfl) | (simp [*,errW_none,errW_some] <;> rfl),by repeat (first | (with_reducible first | exact HB.out | apply below_alloc | apply pw_below_drewN | apply below_drew1 | refine below_set ?_ GE347.out) | exact HB.out)⟩
      ·rw [if_neg c20] at H
       have c20b0 : (t351 == t355)=false:=beq_eq_false_iff_ne.mpr c20
       have c20b1 : (t351 != t355)=true:=bne_iff_ne.mpr c20
       obtain rfl:=Option.some.inj H
       go_wp2_with (first | ((with_reducible refine gate_callee (f:=47) rfl ?_);refine goesL_ (some 42) rfl rfl Tryd.func47 (by kernel_rfl) rfl #[.slice A0 l0.length c0,.int .i64 a1,.int .i64 a4,.int .i64 a5] rfl (by (try simp only [List.map_toArray,List.map_cons,List.map_nil]);first | done | rfl | (simp only [List.length_drop,List.length_take];rfl)) ?_;(with_reducible refine (devices_Current.calls _ _ l0 a1 a4 a5 t350 t351 t352 t353 _ ?side1 ?side2 A15.out).mono ?_);(case side1=>repeat (first | exact (Kd.C_below HR0.out HB.out) | (with_reducible refine Kd.C_alloc ?_ _) | (with_reducible refine Kd.C_drewN ?_ _) | (with_reducible refine Kd.C_drew ?_)));(case side2=>exact HC0.out);rintro e w55 ⟨rfl,hb⟩;refine ⟨_,rfl,?_⟩;have n0_:=Aside0.mk (blk_below (g:=gb347) (o:=.cells #[.int .i64 a3_0,.int .i64 a3_1] 73 (0,0)) (by (with_reducible repeat (first | refine blk_drewN ?_ _ | refine blk_drew ?_ | refine blk_alloc ?_ _));exact BK347.out) hb);have n1_:=Aside0.mk (below_step (by repeat (first | (with_reducible first | exact HB.out | apply below_alloc | apply pw_below_drewN | apply below_drew1 | refine below_set ?_ GE347.out) | exact HB.out)) hb);clear BK347;clear HB;have BK347:=n0_;have HB:=n1_;clear n0_ n1_;(try clear hb);(try clear hb2);(try clear hk);(try clear hi)) | ((with_reducible refine gate_callee (f:=48) rfl ?_);refine goesL_ (some 52) rfl rfl Tryd.func48 (by kernel_rfl) rfl #[.slice A0 l0.length c0,.int .i64 a1,.int .i64 a4,.int .i64 a5] rfl (by (try simp only [List.map_toArray,List.map_cons,List.map_nil]);first | done | rfl | (simp only [List.length_drop,List.length_take];rfl)) ?_;(with_reducible refine (R48_Current.calls kj8 _ _ l0 a1 a4 a5 t354 t355 t356 t357 _ ?side1 ?side2 A16.out).mono ?_);(case side1=>repeat (first | exact (Kd.C_below HR0.out HB.out) | (with_reducible refine Kd.C_alloc ?_ _) | (with_reducible refine Kd.C_drewN ?_ _) | (with_reducible refine Kd.C_drew ?_)));(case side2=>exact HC0.out);rintro e w56 ⟨rfl,hb⟩;refine ⟨_,rfl,?_⟩;have n0_:=Aside0.mk (blk_below (g:=gb347) (o:=.cells #[.int .i64 a3_0,.int .i64 a3_1] 73 (0,0)) (by (with_reducible repeat (first | refine blk_drewN ?_ _ | refine blk_drew ?_ | refine blk_alloc ?_ _));exact BK347.out) hb);have n1_:=Aside0.mk (below_step (by repeat (first | (with_reducible first | exact HB.out | apply below_alloc | apply pw_below_drewN | apply below_drew1 | refine below_set ?_ GE347.out) | exact HB.out)) hb);clear BK347;clear HB;have BK347:=n0_;have HB:=n1_;clear n0_ n1_;(try clear hb);(try clear hb2);(try clear hk);(try clear hi);have hcz57_0 : w56.cell? ⟨gb347,0,none⟩=some (.int .i64 a3_0):=(blk_cell BK347.out 0).trans rfl;have hcz57_1 : w56.cell? ⟨gb347,1,none⟩=some (.int .i64 a3_1):=(blk_cell BK347.out 1).trans rfl;have hfz57_0:=blk_frozen BK347.out 0;have hfz57_1:=blk_frozen BK347.out 1) | ((with_reducible refine gate_callee (f:=49) rfl ?_);refine goesL_ (some 64) rfl rfl Tryd.func49 (by kernel_rfl) rfl #[.slice A0 l0.length c0,.int .i64 a1,.slice A2 l2.length c2,.agg #[.int .i64 a3_0,.int .i64 a3_1],.int .i64 a4,.int .i64 a5] rfl (by (try simp only [List.map_toArray,List.map_cons,List.map_nil]);first | done | rfl | (simp only [List.length_drop,List.length_take];rfl)) ?_;(with_reducible refine (devices_Accepts.calls (hLd:=?sideL) _ _ l0 a1 _ _ l2 a3_0 a3_1 a4 a5 t358 t359 t360 _ ?side1 ?side2 ?side3 ?side4 A17.out).mono ?_);(case sideL=>exact Go.Proofs.YtjbcfdgnafmbkaaDoor.Cod.Laid.below HLd.out (by repeat (first | (with_reducible first | exact HB.out | apply below_alloc | apply pw_below_drewN | apply below_drew1 | refine below_set ?_ GE347.out) | exact HB.out)));(case side1=>repeat (first | exact (Kd.C_below HR0.out HB.out) | (with_reducible refine Kd.C_alloc ?_ _) | (with_reducible refine Kd.C_drewN ?_ _) | (with_reducible refine Kd.C_drew ?_)));(case side2=>exact HC0.out);(case side3=>repeat (first | exact (Kd.C_below HR2.out HB.out) | (with_reducible refine Kd.C_alloc ?_ _) | (with_reducible refine Kd.C_drewN ?_ _) | (with_reducible refine Kd.C_drew ?_)));(case side4=>exact HC2.out);rintro e w58 ⟨rfl,hb⟩;refine ⟨_,rfl,?_⟩;have n0_:=Aside0.mk (blk_below (g:=gb347) (o:=.cells #[.int .i64 a3_0,.int .i64 a3_1] 73 (0,0)) (by (with_reducible repeat (first | refine blk_drewN ?_ _ | refine blk_drew ?_ | refine blk_alloc ?_ _));exact BK347.out) hb);have n1_:=Aside0.mk (below_step (by repeat (first | (with_reducible first | exact HB.out | apply below_alloc | apply pw_below_drewN | apply below_drew1 | refine below_set ?_ GE347.out) | exact HB.out)) hb);clear BK347;clear HB;have BK347:=n0_;have HB:=n1_;clear n0_ n1_;(try clear hb);(try clear hb2);(try clear hk);(try clear hi);have hcz59_0 : w58.cell? ⟨gb347,0,none⟩=some (.int .i64 a3_0):=(blk_cell BK347.out 0).trans rfl;have hcz59_1 : w58.cell? ⟨gb347,1,none⟩=some (.int .i64 a3_1):=(blk_cell BK347.out 1).trans rfl;have hfz59_0:=blk_frozen BK347.out 0;have hfz59_1:=blk_frozen BK347.out 1) | ((with_reducible refine gate_callee (f:=50) rfl ?_);refine goesL_ (some 75) rfl rfl Tryd.func50 (by kernel_rfl) rfl #[.slice A0 l0.length c0,.int .i64 a1,.slice A2 l2.length c2,.agg #[.int .i64 a3_0,.int .i64 a3_1],.int .i64 a4,.int .i64 a5] rfl (by (try simp only [List.map_toArray,List.map_cons,List.map_nil]);first | done | rfl | (simp only [List.length_drop,List.length_take];rfl)) ?_;(with_reducible refine (R48_Accepts.calls kj8 _ _ l0 a1 _ _ l2 a3_0 a3_1 a4 a5 t361 t362 t363 _ ?side1 ?side2 ?side3 ?side4 A18.out).mono ?_);(case side1=>repeat (first | exact (Kd.C_below HR0.out HB.out) | (with_reducible refine Kd.C_alloc ?_ _) | (with_reducible refine Kd.C_drewN ?_ _) | (with_reducible refine Kd.C_drew ?_)));(case side2=>exact HC0.out);(case side3=>repeat (first | exact (Kd.C_below HR2.out HB.out) | (with_reducible refine Kd.C_alloc ?_ _) | (with_reducible refine Kd.C_drewN ?_ _) | (with_reducible refine Kd.C_drew ?_)));(case side4=>exact HC2.out);rintro e w60 ⟨rfl,hb⟩;refine ⟨_,rfl,?_⟩;have n0_:=Aside0.mk (blk_below (g:=gb347) (o:=.cells #[.int .i64 a3_0,.int .i64 a3_1] 73 (0,0)) (by (with_reducible repeat (first | refine blk_drewN ?_ _ | refine blk_drew ?_ | refine blk_alloc ?_ _));exact BK347.out) hb);have n1_:=Aside0.mk (below_step (by repeat (first | (with_reducible first | exact HB.out | apply below_alloc | apply pw_below_drewN | apply below_drew1 | refine below_set ?_ GE347.out) | exact HB.out)) hb);clear BK347;clear HB;have BK347:=n0_;have HB:=n1_;clear n0_ n1_;(try clear hb);(try clear hb2);(try clear hk);(try clear hi)))
       go_ret
       exact ⟨by first | rfl | (simp [errW_none,errW_some] <;> rfl) | (simp [*,errW_none,errW_some] <;> rfl),by repeat (first | (with_reducible first | exact HB.out | apply below_alloc | apply pw_below_drewN | apply below_drew1 | refine below_set ?_ GE347.out) | exact HB.out)⟩
     ·rw [if_neg c19] at H
      have c19b0 : (t350 == t354)=false:=beq_eq_false_iff_ne.mpr c19
      have c19b1 : (t350 != t354)=true:=bne_iff_ne.mpr c19
      obtain rfl:=Option.some.inj H
      go_wp2_with (first | ((with_reducible refine gate_callee (f:=47) rfl ?_);refine goesL_ (some 42) rfl rfl Tryd.func47 (by kernel_rfl) rfl #[.slice A0 l0.length c0,.int .i64 a1,.int .i64 a4,.int .i64 a5] rfl (by (try simp only [List.map_toArray,List.map_cons,List.map_nil]);first | done | rfl | (simp only [List.length_drop,List.length_take];rfl)) ?_;(with_reducible refine (devices_Current.calls _ _ l0 a1 a4 a5 t350 t351 t352 t353 _ ?side1 ?side2 A15.out).mono ?_);(case side1=>repeat (first | exact (Kd.C_below HR0.out HB.out) | (with_reducible refine Kd.C_alloc ?_ _) | (with_reducible refine Kd.C_drewN ?_ _) | (with_reducible refine Kd.C_drew ?_)));(case side2=>exact HC0.out);rintro e w61 ⟨rfl,hb⟩;refine ⟨_,rfl,?_⟩;have n0_:=Aside0.mk (blk_below (g:=gb347) (o:=.cells #[.int .i64 a3_0,.int .i64 a3_1] 73 (0,0)) (by (with_reducible repeat (first | refine blk_drewN ?_ _ | refine blk_drew ?_ | refine blk_alloc ?_ _));exact BK347.out) hb);have n1_:=Aside0.mk (below_step (by repeat (first | (with_reducible first | exact HB.out | apply below_alloc | apply pw_below_drewN | apply below_drew1 | refine below_set ?_ GE347.out) | exact HB.out)) hb);clear BK347;clear HB;have BK347:=n0_;have HB:=n1_;clear n0_ n1_;(try clear hb);(try clear hb2);(try clear hk);(try clear hi)) | ((with_reducible refine gate_callee (f:=48) rfl ?_);refine goesL_ (some 52) rfl rfl Tryd.func48 (by kernel_rfl) rfl #[.slice A0 l0.length c0,.int .i64 a1,.int .i64 a4,.int .i64 a5] rfl (by (try simp only [List.map_toArray,List.map_cons,List.map_nil]);first | done | rfl | (simp only [List.length_drop,List.length_take];rfl)) ?_;(with_reducible refine (R48_Current.calls kj8 _ _ l0 a1 a4 a5 t354 t355 t356 t357 _ ?side1 ?side2 A16.out).mono ?_);(case side1=>repeat (first | exact (Kd.C_below HR0.out HB.out) | (with_reducible refine Kd.C_alloc ?_ _) | (with_reducible refine Kd.C_drewN ?_ _) | (with_reducible refine Kd.C_drew ?_)));(case side2=>exact HC0.out);rintro e w62 ⟨rfl,hb⟩;refine ⟨_,rfl,?_⟩;have n0_:=Aside0.mk (blk_below (g:=gb347) (o:=.cells #[.int .i64 a3_0,.int .i64 a3_1] 73 (0,0)) (by (with_reducible repeat (first | refine blk_drewN ?_ _ | refine blk_drew ?_ | refine blk_alloc ?_ _));exact BK347.out) hb);have n1_:=Aside0.mk (below_step (by repeat (first | (with_reducible first | exact HB.out | apply below_alloc | apply pw_below_drewN | apply below_drew1 | refine below_set ?_ GE347.out) | exact HB.out)) hb);clear BK347;clear HB;have BK347:=n0_;have HB:=n1_;clear n0_ n1_;(try clear hb);(try clear hb2);(try clear hk);(try clear hi);have hcz63_0 : w62.cell? ⟨gb347,0,none⟩=some (.int .i64 a3_0):=(blk_cell BK347.out 0).trans rfl;have hcz63_1 : w62.cell? ⟨gb347,1,none⟩=some (.int .i64 a3_1):=(blk_cell BK347.out 1).trans rfl;have hfz63_0:=blk_frozen BK347.out 0;have hfz63_1:=blk_frozen BK347.out 1) | ((with_reducible refine gate_callee (f:=49) rfl ?_);refine goesL_ (some 64) rfl rfl Tryd.func49 (by kernel_rfl) rfl #[.slice A0 l0.length c0,.int .i64 a1,.slice A2 l2.length c2,.agg #[.int .i64 a3_0,.int .i64 a3_1],.int .i64 a4,.int .i64 a5] rfl (by (try simp only [List.map_toArray,List.map_cons,List.map_nil]);first | done | rfl | (simp only [List.length_drop,List.length_take];rfl)) ?_;(with_reducible refine (devices_Accepts.calls (hLd:=?sideL) _ _ l0 a1 _ _ l2 a3_0 a3_1 a4 a5 t358 t359 t360 _ ?side1 ?side2 ?side3 ?side4 A17.out).mono ?_);(case sideL=>exact Go.Proofs.YtjbcfdgnafmbkaaDoor.Cod.Laid.below HLd.out (by repeat (first | (with_reducible first | exact HB.out | apply below_alloc | apply pw_below_drewN | apply below_drew1 | refine below_set ?_ GE347.out) | exact HB.out)));(case side1=>repeat (first | exact (Kd.C_below HR0.out HB.out) | (with_reducible refine Kd.C_alloc ?_ _) | (with_reducible refine Kd.C_drewN ?_ _) | (with_reducible refine Kd.C_drew ?_)));(case side2=>exact HC0.out);(case side3=>repeat (first | exact (Kd.C_below HR2.out HB.out) | (with_reducible refine Kd.C_alloc ?_ _) | (with_reducible refine Kd.C_drewN ?_ _) | (with_reducible refine Kd.C_drew ?_)));(case side4=>exact HC2.out);rintro e w64 ⟨rfl,hb⟩;refine ⟨_,rfl,?_⟩;have n0_:=Aside0.mk (blk_below (g:=gb347) (o:=.cells #[.int .i64 a3_0,.int .i64 a3_1] 73 (0,0)) (by (with_reducible repeat (first | refine blk_drewN ?_ _ | refine blk_drew ?_ | refine blk_alloc ?_ _));exact BK347.out) hb);have n1_:=Aside0.mk (below_step (by repeat (first | (with_reducible first | exact HB.out | apply below_alloc | apply pw_below_drewN | apply below_drew1 | refine below_set ?_ GE347.out) | exact HB.out)) hb);clear BK347;clear HB;have BK347:=n0_;have HB:=n1_;clear n0_ n1_;(try clear hb);(try clear hb2);(try clear hk);(try clear hi);have hcz65_0 : w64.cell? ⟨gb347,0,none⟩=some (.int .i64 a3_0):=(blk_cell BK347.out 0).trans rfl;have hcz65_1 : w64.cell? ⟨gb347,1,none⟩=some (.int .i64 a3_1):=(blk_cell BK347.out 1).trans rfl;have hfz65_0:=blk_frozen BK347.out 0;have hfz65_1:=blk_frozen BK347.out 1) | ((with_reducible refine gate_callee (f:=50) rfl ?_);refine goesL_ (some 75) rfl rfl Tryd.func50 (by kernel_rfl) rfl #[.slice A0 l0.length c0,.int .i64 a1,.slice A2 l2.length c2,.agg #[.int .i64 a3_0,.int .i64 a3_1],.int .i64 a4,.int .i64 a5] rfl (by (try simp only [List.map_toArray,List.map_cons,List.map_nil]);first | done | rfl | (simp only [List.length_drop,List.length_take];rfl)) ?_;(with_reducible refine (R48_Accepts.calls kj8 _ _ l0 a1 _ _ l2 a3_0 a3_1 a4 a5 t361 t362 t363 _ ?side1 ?side2 ?side3 ?side4 A18.out).mono ?_);(case side1=>repeat (first | exact (Kd.C_below HR0.out HB.out) | (with_reducible refine Kd.C_alloc ?_ _) | (with_reducible refine Kd.C_drewN ?_ _) | (with_reducible refine Kd.C_drew ?_)));(case side2=>exact HC0.out);(case side3=>repeat (first | exact (Kd.C_below HR2.out HB.out) | (with_reducible refine Kd.C_alloc ?_ _) | (with_reducible refine Kd.C_drewN ?_ _) | (with_reducible refine Kd.C_drew ?_)));(case side4=>exact HC2.out);rintro e w66 ⟨rfl,hb⟩;refine ⟨_,rfl,?_⟩;have n0_:=Aside0.mk (blk_below (g:=gb347) (o:=.cells #[.int .i64 a3_0,.int .i64 a3_1] 73 (0,0)) (by (with_reducible repeat (first | refine blk_drewN ?_ _ | refine blk_drew ?_ | refine blk_alloc ?_ _));exact BK347.out) hb);have n1_:=Aside0.mk (below_step (by repeat (first | (with_reducible first | exact HB.out | apply below_alloc | apply pw_below_drewN | apply below_drew1 | refine below_set ?_ GE347.out) | exact HB.out)) hb);clear BK347;clear HB;have BK347:=n0_;have HB:=n1_;clear n0_ n1_;(try clear hb);(try clear hb2);(try clear hk);(try clear hi)))
      go_ret
      exact ⟨by first | rfl | (simp [errW_none,errW_some] <;> rfl) | (simp [*,errW_none,errW_some] <;> rfl),by repeat (first | (with_reducible first | exact HB.out | apply below_alloc | apply pw_below_drewN | apply below_drew1 | refine below_set ?_ GE347.out) | exact HB.out)⟩
 ·replace c8:=Bool.eq_false_iff.mpr c8
  subst c8
  have H1 : (some false)=some r:=by rw [if_neg (show ¬ (false=true) by decide)] at H;exact H
  clear H
  have H:=H1
  clear H1
  obtain rfl:=Option.some.inj H
  go_enter Tryd.func11,Tryd.ntmps11
  go_wp2_with (first | ((with_reducible refine gate_dst (N:=9) rfl ?_);(try (refine gate_guard (by rfl) ?_;dsimp only));refine box_event ?hg (N:=9) ?hd (cs:=#[.int .i64 a3_0,.int .i64 a3_1]) (t:=73) ?hr ?_;(case hd=>rfl);(case hg=>rfl);(case hr=>first | (go_simp;done) | (go_simp;rfl));intro gb347 hg w67 hbox hb;have n0_:=Aside0.mk (below_step (by repeat (first | (with_reducible first | exact HB.out | apply below_alloc | apply pw_below_drewN | apply below_drew1) | exact HB.out)) hb);have n1_:=Aside0.mk (hbox);have n2_:=Aside0.mk ((by rw [hg];exact (below_size (by repeat (first | (with_reducible first | exact HB.out | apply below_alloc | apply pw_below_drewN | apply below_drew1) | exact HB.out))) : w.heap.size ≤ gb347));have n3_:=Aside0.mk ((by rw [hg];exact (below_size (by repeat (first | (with_reducible first | exact HB.out | apply below_alloc | apply pw_below_drewN | apply below_drew1) | exact HB.out))) : w.heap.size ≤ gb347));clear HB;have HB:=n0_;have BK347:=n1_;have GW347:=n2_;have GE347:=n3_;clear n0_ n1_ n2_ n3_;clear hb hbox hg) | ((with_reducible refine gate_callee (f:=40) rfl ?_);refine goesL_ (some 27) rfl rfl Tryd.func40 (by kernel_rfl) rfl #[] rfl (by (try simp only [List.map_toArray,List.map_cons,List.map_nil]);first | done | rfl | (simp only [List.length_drop,List.length_take];rfl)) ?_;(with_reducible refine (L48_sane.calls (hLd:=?sideL) k  false _ A7.out).mono ?_);(case sideL=>exact Go.Proofs.YtjbcfdgnafmbkaaDoor.Cod.Laid.below HLd.out (by repeat (first | (with_reducible first | exact HB.out | apply below_alloc | apply pw_below_drewN | apply below_drew1 | refine below_set ?_ GE347.out) | exact HB.out)));rintro e w68 ⟨rfl,hb⟩;refine ⟨_,rfl,?_⟩;have n0_:=Aside0.mk (blk_below (g:=gb347) (o:=.cells #[.int .i64 a3_0,.int .i64 a3_1] 73 (0,0)) (by (with_reducible repeat (first | refine blk_drewN ?_ _ | refine blk_drew ?_ | refine blk_alloc ?_ _));exact BK347.out) hb);have n1_:=Aside0.mk (below_step (by repeat (first | (with_reducible first | exact HB.out | apply below_alloc | apply pw_below_drewN | apply below_drew1 | refine below_set ?_ GE347.out) | exact HB.out)) hb);clear BK347;clear HB;have BK347:=n0_;have HB:=n1_;clear n0_ n1_;(try clear hb);(try clear hb2);(try clear hk);(try clear hi)))
  go_ret
  exact ⟨by first | rfl | (simp [errW_none,errW_some] <;> rfl) | (simp [*,errW_none,errW_some] <;> rfl),by repeat (first | (with_reducible first | exact HB.out | apply below_alloc | apply pw_below_drewN | apply below_drew1 | refine below_set ?_ GE347.out) | exact HB.out)⟩
end Go.Proofs.YtjbcfdgnafmbkaaDoor.PBig
end
section
set_option linter.unusedVariables false
namespace Go.Proofs.YtjbcfdgnafmbkaaDoor.Dev
open Go.RowKit Go.Proofs.YtjbcfdgnafmbkaaDoor Go.Proofs.YtjbcfdgnafmbkaaDoorW.PrintWords Go.Proofs.YtjbcfdgnafmbkaaDoorW.PrintLast Go.Proofs.YtjbcfdgnafmbkaaDoor.PBig
theorem refexp_f (n : Int) : R10_exponent.f n=some (n % 1073741789):=by
  unfold R10_exponent.f
  have h:=Int.emod_lt_of_pos n (b:=1073741789) (by omega)
  have h0:=Int.emod_nonneg n (b:=1073741789) (by omega)
  have lo : -1073741789 < Int.tmod n 1073741789:=by
    have:=Int.lt_tmod_of_pos n (b:=1073741789) (by omega);omega
  have hi : Int.tmod n 1073741789 < 1073741789:=Int.tmod_lt_of_pos n (by omega)
  have e : (Int.tmod n 1073741789) % 1073741789=n % 1073741789:=by
    rw [Int.tmod_eq_emod]
    split <;> simp
  split
  · have : wrap64 (Int.tmod n 1073741789 + 1073741789)=Int.tmod n 1073741789 + 1073741789:=by unfold wrap64;omega
    rw [this];congr 1;omega
  · congr 1;omega
theorem refpow_e (a n : Int) (h : validB a=true) : Ev (fun k=>R10_Pow.f k a n) (powI a n,0):=by
  have e : R10_power.f 32 a (n % 1073741789)=some (powI a n):=by
    obtain ⟨h1,h2,_⟩:=validB_true h
    have hq:=Int.emod_lt_of_pos n (b:=1073741789) (by omega)
    have hq0:=Int.emod_nonneg n (b:=1073741789) (by omega)
    have:=PGroup.refpower_f a.toNat (n % 1073741789).toNat (by omega) (by omega)
    rw [Int.toNat_of_nonneg hq0,Int.toNat_of_nonneg (show 0 ≤ a by omega)] at this
    unfold PGroup.R10_power.f at this
    unfold R10_power.f powI
    rw [refpower_same,this]
  unfold R10_Pow.f
  refine Ev.bind (a:=true) (ev_const (K:=32) (fun k=>by rw [refvalid_k,h])) (ev_pos rfl ?_)
  rw [refexp_f]
  simp only [Option.bind_some]
  exact Ev.bind (Ev.of (fun k=>R10_power.mono a _ k) e) (ev_id _ rfl)
theorem refmul_e (a b : Int) (ha : validB a=true) (hb : validB b=true) : Ev (fun k=>R10_Mul.f k a b) (mulI a b,0):=by
  unfold R10_Mul.f
  refine Ev.bind (a:=true) (ev_const (K:=32) (fun k=>by rw [refvalid_k,ha])) (ev_pos rfl (Ev.bind (a:=true) (ev_const (K:=32) (fun k=>by rw [refvalid_k,hb])) (ev_pos rfl (ev_id _ ?_))))
  obtain ⟨h1,h2,_⟩:=validB_true ha
  obtain ⟨h3,h4,_⟩:=validB_true hb
  have hp : 0 ≤ a * b:=Int.mul_nonneg (by omega) (by omega)
  have hp2 : a * b ≤ 2147483578 * 2147483578:=Int.mul_le_mul (by omega) (by omega) (by omega) (by omega)
  rw [wrap_small (by omega) (by omega),Int.tmod_eq_emod_of_nonneg hp]
  rfl
theorem point_e (key e s : Int) (hk : validB key=true) (he : 0 ≤ e) (he2 : e < 1073741789) : Ev (fun k=>R11_Point.f k key e s) (mulI (powI 4 s) (powI key (-e))):=by
  unfold R11_Point.f
  rw [wrap_small (a:=-e) (by omega) (by omega)]
  exact Ev.bind (refpow_e 4 s valid_4) (Ev.bind (refpow_e key (-e) hk) (Ev.bind (refmul_e _ _ (valid_pow valid_4 s) (valid_pow hk _)) (ev_id _ rfl)))
theorem empty_toList : (⟨#[]⟩ : ByteArray).toList=[]:=by
  first | (unfold ByteArray.toList;unfold ByteArray.toList.loop;rfl) | (simp [ByteArray.toList,ByteArray.toList.loop];done) | decide +kernel
theorem formed1 (n : Int) (k : Nat) : R01_Formed.f (k + 1) 1 n ⟨#[]⟩ []=some true:=by
  rw [R01_Formed.f,if_pos rfl,if_pos empty_toList];rfl
theorem formed2 (s : ByteArray) (k : Nat) : R01_Formed.f (k + 1) 2 0 s []=some true:=by
  rw [R01_Formed.f,if_neg (by decide),if_pos rfl,if_pos rfl];rfl
theorem formed_tri (r key : Int) (s : ByteArray) (k : Nat) : R01_Formed.f (k + 6) 3 0 ⟨#[]⟩ [⟨1,r,⟨#[]⟩,[]⟩,⟨1,key,⟨#[]⟩,[]⟩,⟨2,0,s,[]⟩]=some true:=by
  have w1 : wrap64 (0 + 1)=1:=wrap_small (by omega) (by omega)
  have w2 : wrap64 (1 + 1)=2:=wrap_small (by omega) (by omega)
  have w3 : wrap64 (2 + 1)=3:=wrap_small (by omega) (by omega)
  have e0 : rd_T93 ([⟨1,r,⟨#[]⟩,[]⟩,⟨1,key,⟨#[]⟩,[]⟩,⟨2,0,s,[]⟩] : List S93) 0=⟨1,r,⟨#[]⟩,[]⟩:=rfl
  have e1 : rd_T93 ([⟨1,r,⟨#[]⟩,[]⟩,⟨1,key,⟨#[]⟩,[]⟩,⟨2,0,s,[]⟩] : List S93) 1=⟨1,key,⟨#[]⟩,[]⟩:=rfl
  have e2 : rd_T93 ([⟨1,r,⟨#[]⟩,[]⟩,⟨1,key,⟨#[]⟩,[]⟩,⟨2,0,s,[]⟩] : List S93) 2=⟨2,0,s,[]⟩:=rfl
  rw [R01_Formed.f,if_neg (by decide),if_neg (by decide),if_pos rfl]
  rw [R01_Formed.l0,if_pos (by simp),if_pos (by decide),e0]
  simp only
  rw [formed1,Option.bind_some,if_pos rfl,w1]
  rw [R01_Formed.l0,if_pos (by simp),if_pos (by decide),e1]
  simp only
  rw [formed1,Option.bind_some,if_pos rfl,w2]
  rw [R01_Formed.l0,if_pos (by simp),if_pos (by decide),e2]
  simp only
  rw [formed2,Option.bind_some,if_pos rfl,w3]
  rw [R01_Formed.l0,if_neg (by simp),if_pos rfl,empty_toList]
  rfl
theorem depth_no (a n : Int) (s : ByteArray) (l : List S93) (k : Nat) (h : a ≠ 3) : R01_Depth.f (k + 1) a n s l=some 0:=by
  rw [R01_Depth.f,if_neg h]
theorem depth_tri (r key : Int) (s : ByteArray) (k : Nat) : R01_Depth.f (k + 6) 3 0 ⟨#[]⟩ [⟨1,r,⟨#[]⟩,[]⟩,⟨1,key,⟨#[]⟩,[]⟩,⟨2,0,s,[]⟩]=some 1:=by
  have w1 : wrap64 (0 + 1)=1:=wrap_small (by omega) (by omega)
  have w2 : wrap64 (1 + 1)=2:=wrap_small (by omega) (by omega)
  have w3 : wrap64 (2 + 1)=3:=wrap_small (by omega) (by omega)
  have m0 : mx 0 0=0:=by decide
  have e0 : rd_T93 ([⟨1,r,⟨#[]⟩,[]⟩,⟨1,key,⟨#[]⟩,[]⟩,⟨2,0,s,[]⟩] : List S93) 0=⟨1,r,⟨#[]⟩,[]⟩:=rfl
  have e1 : rd_T93 ([⟨1,r,⟨#[]⟩,[]⟩,⟨1,key,⟨#[]⟩,[]⟩,⟨2,0,s,[]⟩] : List S93) 1=⟨1,key,⟨#[]⟩,[]⟩:=rfl
  have e2 : rd_T93 ([⟨1,r,⟨#[]⟩,[]⟩,⟨1,key,⟨#[]⟩,[]⟩,⟨2,0,s,[]⟩] : List S93) 2=⟨2,0,s,[]⟩:=rfl
  rw [R01_Depth.f,if_pos rfl]
  rw [R01_Depth.l0,if_pos (by simp),if_pos (by decide),e0]
  simp only
  rw [depth_no _ _ _ _ _ (by decide),Option.bind_some,w1,m0]
  rw [R01_Depth.l0,if_pos (by simp),if_pos (by decide),e1]
  simp only
  rw [depth_no _ _ _ _ _ (by decide),Option.bind_some,w2,m0]
  rw [R01_Depth.l0,if_pos (by simp),if_pos (by decide),e2]
  simp only
  rw [depth_no _ _ _ _ _ (by decide),Option.bind_some,w3,m0]
  rw [R01_Depth.l0,if_neg (by simp),w1]
theorem ok_tri (r key : Int) (l : List Int) (h1 : -9223372036854775808 ≤ r) (h2 : r < 9223372036854775808) (h3 : -9223372036854775808 ≤ key) (h4 : key < 9223372036854775808) : Cod.okV 2 ⟨3,0,ByteArray.empty,Cod.tri r key l⟩:=by
  refine ⟨show (-9223372036854775808 : Int) ≤ 0 by decide,show (0 : Int) < 9223372036854775808 by decide,.inr (.inr ⟨rfl,rfl,rfl,fun y hy=>?_⟩)⟩
  simp only [Cod.tri,List.mem_cons,List.mem_nil_iff,or_false] at hy
  rcases hy with rfl | rfl | rfl
  · exact ⟨h1,h2,.inl ⟨rfl,rfl,rfl⟩⟩
  · exact ⟨h3,h4,.inl ⟨rfl,rfl,rfl⟩⟩
  · exact ⟨show (-9223372036854775808 : Int) ≤ 0 by decide,show (0 : Int) < 9223372036854775808 by decide,.inr (.inl ⟨rfl,rfl,rfl⟩)⟩
theorem enc_e (r key : Int) (l : List Int) (h1 : -9223372036854775808 ≤ r) (h2 : r < 9223372036854775808) (h3 : -9223372036854775808 ≤ key) (h4 : key < 9223372036854775808) (hl : l.length ≤ 1048576) :
    Ev (fun k=>R01_Encode.f k 3 0 ⟨#[]⟩ (Cod.tri r key l)) (Sha.toI (Cod.encL (Cod.tri r key l)),0):=by
  have hE:=Cod.encL_tri r key l h1 h2 h3 h4 hl
  have hc : Ev (fun k=>R01_Check.f k 3 0 ⟨#[]⟩ (Cod.tri r key l)) 0:=by
    unfold R01_Check.f
    refine Ev.bind (a:=true) (ev_const (K:=6) (fun k=>formed_tri r key _ k)) (ev_pos rfl (Ev.bind (a:=1) (ev_const (K:=6) (fun k=>depth_tri r key _ k)) (ev_neg (by decide) (ev_id _ rfl))))
  have he : ∀ k,R01_encode.f k 3 0 ⟨#[]⟩ (Cod.tri r key l)=some (Sha.toI (Cod.encL (Cod.tri r key l))):=fun k=>by
    have h5 : (Cod.encL (Cod.tri r key l)).length + 40 ≤ 70368744177664:=by have:=hE.1;omega
    unfold R01_encode.f
    rw [if_pos ⟨Cod.okB_of 2 _ (ok_tri r key l h1 h2 h3 h4),h5⟩]
    rfl
  unfold R01_Encode.f
  refine Ev.bind hc (ev_pos rfl ?_)
  simp only [he,Option.bind_some]
  exact ev_id _ rfl
theorem rhash_e (r key : Int) (l : List Int) (h1 : -9223372036854775808 ≤ r) (h2 : r < 9223372036854775808) (h3 : -9223372036854775808 ≤ key) (h4 : key < 9223372036854775808) (hl : l.length ≤ 1048576) :
    Ev (fun k=>R11_Hash.f k r key l) (Cod.hsh r key l):=by
  have hE:=Cod.encL_tri r key l h1 h2 h3 h4 hl
  have hh : R10_Hash.f ⟨#[115,105,103,110]⟩ (Sha.toI (Cod.encL (Cod.tri r key l)))=some (Cod.hsh r key l):=by
    unfold R10_Hash.f Cod.hsh
    rw [if_pos ⟨Sha.bytesOk_toI hE.2 hE.1,by decide⟩,Sha.toNat_toI]
  unfold R11_Hash.f R01_Int.f R01_Text.f R01_List.f
  simp only [Option.bind_some]
  have h:=enc_e r key l h1 h2 h3 h4 hl
  refine Ev.bind h ?_
  simp only [hh,Option.bind_some]
  exact ev_id _ rfl
theorem pow_rng {a : Int} (h : validB a=true) : 1 ≤ a ∧ a < 2147483579:=⟨(validB_true h).1,(validB_true h).2.1⟩
theorem verify_e (key : Int) (l : List Int) (e s : Int) (hl : l.length ≤ 1048576) : Ev (fun k=>R11_Verify.f k key l e s) (Cod.vfB key l e s):=by
  have jt : Ev (fun k=>R11_Verify.j0 k key l true e s) false:=Ev.step (fun K=>by rw [R11_Verify.j0]) (ev_pos rfl (ev_id _ rfl))
  unfold R11_Verify.f
  refine Ev.bind (a:=validB key) (ev_const (K:=32) (fun k=>refvalid_k k key)) ?_
  unfold Cod.vfB
  by_cases hok : Cod.vfOk key e s=true
  · rw [hok,Bool.true_and]
    unfold Cod.vfOk at hok
    simp only [Bool.and_eq_true,decide_eq_true_eq] at hok
    obtain ⟨⟨⟨⟨g1,g2⟩,g3⟩,g4⟩,hk⟩:=hok
    rw [hk]
    refine ev_pos rfl (ev_neg (by omega) (ev_neg (by omega) (ev_neg (by omega) ?_)))
    rw [decide_eq_false (show ¬ s ≥ 1073741789 by omega)]
    refine Ev.step (fun K=>by rw [R11_Verify.j0]) (ev_neg (by decide) ?_)
    have hv:=valid_mul (valid_pow valid_4 s) (valid_pow hk (-e))
    have hr:=pow_rng hv
    have hkr:=pow_rng hk
    refine Ev.bind (point_e key e s hk g1 g3) (Ev.bind (rhash_e _ key l (by omega) (by omega) (by omega) (by omega) hl) (ev_id _ ?_))
    rw [Bool.eq_iff_iff,beq_iff_eq,decide_eq_true_eq]
  · have hf : Cod.vfOk key e s=false:=by simpa using hok
    rw [hf,Bool.false_and]
    cases hk : validB key with
    | false=>exact ev_neg (by decide) jt
    | true =>
      refine ev_pos rfl ?_
      by_cases g1 : e < 0
      · exact ev_pos g1 jt
      · refine ev_neg g1 ?_
        by_cases g2 : e ≥ 1073741789
        · exact ev_pos g2 jt
        · refine ev_neg g2 ?_
          by_cases g3 : s < 0
          · exact ev_pos g3 jt
          · refine ev_neg g3 ?_
            have g4 : s ≥ 1073741789:=by
              apply Classical.byContradiction
              intro g4
              apply hok
              unfold Cod.vfOk
              rw [hk,decide_eq_true (show 0 ≤ e by omega),decide_eq_true (show 0 ≤ s by omega),decide_eq_true (show e < 1073741789 by omega),decide_eq_true (show s < 1073741789 by omega)]
              rfl
            rw [decide_eq_true g4]
            exact jt
theorem cur_take (l : List S65) (p t k : Int) (i : Nat) (h : i < l.length) : cur (l.take (i + 1)) p t k=if selB p t k l[i]=true then stepD (cur (l.take i) p t k) l[i] else cur (l.take i) p t k:=by
  unfold cur
  rw [List.take_succ_eq_append_getElem h,List.filter_append]
  by_cases hs : selB p t k l[i]=true
  · rw [List.filter_cons_of_pos hs,List.filter_nil,bestD_snoc,if_pos hs]
  · rw [List.filter_cons_of_neg hs,List.filter_nil,List.append_nil,if_neg hs]
def idxI (l : List S65) (c : S65 × Bool) (i : Nat) (b : Int) : Prop:=(c.2=false ∧ b=-1) ∨ (c.2=true ∧ ∃ j,j < i ∧ ∃ h : j < l.length,b=(j : Int) ∧ c.1=l[j])
theorem current_l (l : List S65) (p t k : Int) (hl : l.length ≤ 4096) : ∀ n i b,i + n=l.length → idxI l (cur (l.take i) p t k) i b →
    ∃ r,Ev (fun K=>R48_current.l0 K l p t k b (i : Int)) r ∧ ((okD l p t k=false ∧ r=-1) ∨ (okD l p t k=true ∧ ∃ j,∃ h : j < l.length,r=(j : Int) ∧ (cur l p t k).1=l[j]))
  | 0,i,b,hi,hb=>by
    rw [List.take_of_length_le (by omega)] at hb
    rcases hb with ⟨h1,rfl⟩ | ⟨h1,j,hj,hjl,rfl,h2⟩
    · exact ⟨-1,Ev.step (fun K=>by rw [R48_current.l0]) (ev_neg (by omega) (ev_neg (by decide) (ev_id _ rfl))),.inl ⟨by unfold okD;rw [h1];rfl,rfl⟩⟩
    · cases hg : l[j].f5 with
      | true =>
        refine ⟨-1,Ev.step (fun K=>by rw [R48_current.l0]) (ev_neg (by omega) (ev_pos (by omega) (ev_pos (by omega) (ev_pos (by omega) ?_)))),.inl ⟨by unfold okD;rw [h1,h2,hg];rfl,rfl⟩⟩
        rw [rd_at l j hjl,hg]
        exact ev_pos rfl (ev_id _ rfl)
      | false =>
        refine ⟨(j : Int),Ev.step (fun K=>by rw [R48_current.l0]) (ev_neg (by omega) (ev_pos (by omega) (ev_pos (by omega) (ev_pos (by omega) ?_)))),.inr ⟨by unfold okD;rw [h1,h2,hg];rfl,j,hjl,rfl,h2⟩⟩
        rw [rd_at l j hjl,hg]
        exact ev_neg (by decide) (ev_id _ rfl)
  | n + 1,i,b,hi,hb=>by
    have hil : i < l.length:=by omega
    have hw : wrap64 ((i : Int) + 1)=((i + 1 : Nat) : Int):=by rw [wrap_small (by omega) (by omega)];omega
    have ht:=cur_take l p t k i hil
    have skip : selB p t k l[i]=false → ∃ r,Ev (fun K=>R48_current.l0 K l p t k b (wrap64 ((i : Int) + 1))) r ∧ ((okD l p t k=false ∧ r=-1) ∨ (okD l p t k=true ∧ ∃ j,∃ h : j < l.length,r=(j : Int) ∧ (cur l p t k).1=l[j])):=by
      intro hs
      rw [hw]
      refine current_l l p t k hl n (i + 1) b (by omega) ?_
      rw [ht,if_neg (by rw [hs];decide)]
      rcases hb with h | ⟨h1,j,hj,h⟩
      · exact .inl h
      · exact .inr ⟨h1,j,by omega,h⟩
    have lead : ∀ {r},Ev (fun K=>if l[i].f3=p then (if l[i].f1 ≤ t then (if l[i].f2 ≤ k then (if b < 0 then (R48_current.l0 K l p t k (i : Int) (wrap64 ((i : Int) + 1))) else (if 0 ≤ b then (if b < (l.length : Int) then (if l[i].f1 ≥ ((rd_T65 l b).f1) then (R48_current.l0 K l p t k (i : Int) (wrap64 ((i : Int) + 1))) else (R48_current.l0 K l p t k b (wrap64 ((i : Int) + 1)))) else (none)) else (none))) else (R48_current.l0 K l p t k b (wrap64 ((i : Int) + 1)))) else (R48_current.l0 K l p t k b (wrap64 ((i : Int) + 1)))) else (R48_current.l0 K l p t k b (wrap64 ((i : Int) + 1)))) r →
        Ev (fun K=>R48_current.l0 K l p t k b (i : Int)) r:=fun h =>
      Ev.step (fun K=>by rw [R48_current.l0]) (ev_pos (by omega) (ev_pos (by omega) (by rw [rd_at l i hil];exact h)))
    by_cases c1 : l[i].f3=p
    · by_cases c2 : l[i].f1 ≤ t
      · by_cases c3 : l[i].f2 ≤ k
        · have hs : selB p t k l[i]=true:=selB_iff.2 ⟨c1,c2,c3⟩
          rw [if_pos hs] at ht
          rcases hb with ⟨h1,rfl⟩ | ⟨h1,j,hj,hjl,rfl,h2⟩
          · obtain ⟨r,hr,hv⟩:=current_l l p t k hl n (i + 1) (i : Int) (by omega) (by
              rw [ht]
              unfold stepD
              rw [if_pos (.inl h1)]
              exact .inr ⟨rfl,i,by omega,hil,rfl,rfl⟩)
            rw [← hw] at hr
            exact ⟨r,lead (ev_pos c1 (ev_pos c2 (ev_pos c3 (ev_pos (by decide) hr)))),hv⟩
          · by_cases c4 : l[i].f1 ≥ l[j].f1
            · obtain ⟨r,hr,hv⟩:=current_l l p t k hl n (i + 1) (i : Int) (by omega) (by
                rw [ht]
                unfold stepD
                rw [if_pos (.inr (by rw [h2];exact c4))]
                exact .inr ⟨rfl,i,by omega,hil,rfl,rfl⟩)
              rw [← hw] at hr
              exact ⟨r,lead (ev_pos c1 (ev_pos c2 (ev_pos c3 (ev_neg (by omega) (ev_pos (by omega) (ev_pos (by omega) (by rw [rd_at l j hjl];exact ev_pos c4 hr))))))),hv⟩
            · obtain ⟨r,hr,hv⟩:=current_l l p t k hl n (i + 1) (j : Int) (by omega) (by
                rw [ht]
                unfold stepD
                rw [if_neg (by rw [h1,h2];simpa using c4)]
                exact .inr ⟨h1,j,by omega,hjl,rfl,h2⟩)
              rw [← hw] at hr
              exact ⟨r,lead (ev_pos c1 (ev_pos c2 (ev_pos c3 (ev_neg (by omega) (ev_pos (by omega) (ev_pos (by omega) (by rw [rd_at l j hjl];exact ev_neg c4 hr))))))),hv⟩
        · obtain ⟨r,hr,hv⟩:=skip (by cases e : selB p t k l[i] with | false=>rfl | true=>exact absurd (selB_iff.1 e).2.2 c3)
          exact ⟨r,lead (ev_pos c1 (ev_pos c2 (ev_neg c3 hr))),hv⟩
      · obtain ⟨r,hr,hv⟩:=skip (by cases e : selB p t k l[i] with | false=>rfl | true=>exact absurd (selB_iff.1 e).2.1 c2)
        exact ⟨r,lead (ev_pos c1 (ev_neg c2 hr)),hv⟩
    · obtain ⟨r,hr,hv⟩:=skip (by cases e : selB p t k l[i] with | false=>rfl | true=>exact absurd (selB_iff.1 e).1 c1)
      exact ⟨r,lead (ev_neg c1 hr),hv⟩
theorem current_e (l : List S65) (p t k : Int) (hl : l.length ≤ 4096) : ∃ r,Ev (fun K=>R48_current.f K l p t k) r ∧ ((okD l p t k=false ∧ r=-1) ∨ (okD l p t k=true ∧ ∃ j,∃ h : j < l.length,r=(j : Int) ∧ (cur l p t k).1=l[j])):=by
  unfold R48_current.f
  exact current_l l p t k hl l.length 0 (-1) (by omega) (by rw [List.take_zero];exact .inl ⟨rfl,rfl⟩)
def errB (l : List S65) (p t k : Int) : Int:=if chk l=0 then (if argB p t k=true then 0 else 1) else chk l
theorem error_e (l : List S65) (p t k : Int) : Ev (fun K=>R48_Error.f K l p t k) (errB l p t k):=by
  unfold R48_Error.f errB
  refine Ev.bind (ref_check l) ?_
  by_cases hc : chk l=0
  · rw [show (if chk l=0 then (if argB p t k=true then 0 else 1) else chk l)=(if argB p t k=true then (0 : Int) else 1) from if_pos hc]
    refine ev_pos hc ?_
    rw [person_f,time_f,time_f]
    simp only [Option.bind_some]
    unfold argB
    cases inB p 63 with
    | false=>exact ev_neg (by decide) (ev_id _ rfl)
    | true =>
      refine ev_pos rfl ?_
      cases inB t 1099511627775 with
      | false=>exact ev_neg (by decide) (ev_id _ rfl)
      | true =>
        refine ev_pos rfl ?_
        cases inB k 1099511627775 with
        | false=>exact ev_neg (by decide) (ev_id _ rfl)
        | true=>exact ev_pos rfl (ev_id _ rfl)
  · exact ev_neg hc (ev_id _ (if_neg hc).symm)
theorem err_cur (l : List S65) (p t k : Int) (h : errB l p t k ≠ 0) : devices_Current.f l p t k=some (0,0,false,errB l p t k):=by
  rw [cur_f]
  unfold errB at *
  by_cases hc : chk l=0
  · rw [if_pos hc] at h ⊢
    cases ha : argB p t k with
    | true=>rw [ha,if_pos rfl] at h;exact absurd rfl h
    | false=>rw [curv_arg hc ha];simp
  · rw [if_neg hc,curv_err hc];simp
theorem err_acc (l : List S65) (p : Int) (b : List Int) (e s t k : Int) (hb : b.length ≤ 1048576) (h : errB l p t k ≠ 0) : devices_Accepts.f l p b e s t k=some (0,false,errB l p t k):=by
  rw [acc_f _ _ _ _ _ _ _ hb]
  unfold errB at *
  by_cases hc : chk l=0
  · rw [if_pos hc] at h ⊢
    cases ha : argB p t k with
    | true=>rw [ha,if_pos rfl] at h;exact absurd rfl h
    | false=>rw [curv_arg hc ha];simp
  · rw [if_neg hc,curv_err hc];simp
theorem cur_same (l : List S65) (p : Int) (b : List Int) (e s t k : Int) (hb : b.length ≤ 1048576) :
    (∃ v,devices_Current.f l p t k=some v ∧ Ev (fun K=>R48_Current.f K l p t k) v) ∧ (∃ v,devices_Accepts.f l p b e s t k=some v ∧ Ev (fun K=>R48_Accepts.f K l p b e s t k) v):=by
  have he:=error_e l p t k
  unfold R48_Current.f R48_Accepts.f
  by_cases h0 : errB l p t k=0
  · have hc : chk l=0:=by
      unfold errB at h0
      by_cases hc : chk l=0
      · exact hc
      · rw [if_neg hc] at h0;exact h0
    have ha : argB p t k=true:=by
      unfold errB at h0
      rw [if_pos hc] at h0
      cases ha : argB p t k with
      | true=>rfl
      | false=>rw [ha,if_neg (by decide)] at h0;cases h0
    have hl:=(chk_ok.1 hc).1
    obtain ⟨r,hr,hv⟩:=current_e l p t k (by omega)
    rw [cur_g hc ha,acc_g b e s hb hc ha]
    rcases hv with ⟨hk,rfl⟩ | ⟨hk,j,hj,rfl,hx⟩
    · refine ⟨⟨_,rfl,Ev.bind he (ev_pos h0 (Ev.bind hr (ev_pos (by decide) (ev_id _ ?_))))⟩,⟨_,rfl,Ev.bind he (ev_pos h0 (Ev.bind hr (ev_pos (by decide) (ev_id _ ?_))))⟩⟩
      · unfold curT;rw [hk];rfl
      · unfold accT;rw [hk,if_neg (fun h=>by cases h.1)]
    · refine ⟨⟨_,rfl,Ev.bind he (ev_pos h0 (Ev.bind hr (ev_neg (by omega) (ev_pos (by omega) (ev_pos (by omega) (ev_id _ ?_))))))⟩,⟨_,rfl,Ev.bind he (ev_pos h0 (Ev.bind hr (ev_neg (by omega) (ev_pos (by omega) (ev_pos (by omega) ?_)))))⟩⟩
      · rw [rd_at l j hj];unfold curT;rw [if_pos hk,hx]
      · rw [rd_at l j hj]
        refine Ev.bind (verify_e l[j].f4 b e s hb) ?_
        unfold accT
        rw [hx]
        by_cases hq : Cod.vfB l[j].f4 b e s=true
        · exact ev_pos hq (ev_id _ (if_pos ⟨hk,hq⟩).symm)
        · exact ev_neg hq (ev_id _ (if_neg (fun h=>hq h.2)).symm)
  · exact ⟨⟨_,err_cur l p t k h0,Ev.bind he (ev_neg h0 (ev_id _ rfl))⟩,⟨_,err_acc l p b e s t k hb h0,Ev.bind he (ev_neg h0 (ev_id _ rfl))⟩⟩
theorem current_pure (l : List S65) (p : Int) (b : List Int) (e s t k : Int) : Ev (fun K=>L48_DevicesCurrentSpec.f K l p b e s t k) true:=by
  unfold L48_DevicesCurrentSpec.f
  refine Ev.bind sane_ev (ev_pos rfl ?_)
  have skip : Ev (fun K=>L48_DevicesCurrentSpec.j0 K l p b t k true e s) true:=Ev.step (fun K=>by rw [L48_DevicesCurrentSpec.j0]) (ev_pos rfl (ev_id _ rfl))
  have few : ∃ q,R48_Few.f l=some q:=by
    unfold R48_Few.f
    split
    · exact ⟨_,rfl⟩
    · split <;> exact ⟨_,rfl⟩
  obtain ⟨q,hq⟩:=few
  rw [hq]
  simp only [Option.bind_some]
  cases q with
  | false=>exact ev_neg (by decide) skip
  | true =>
    refine ev_pos rfl ?_
    by_cases g3 : (b.length : Int) > 200
    · rw [decide_eq_true g3];exact skip
    · rw [decide_eq_false g3]
      obtain ⟨⟨v,hv,hv2⟩,⟨u,hu,hu2⟩⟩:=cur_same l p b e s t k (by omega)
      refine Ev.step (fun K=>by rw [L48_DevicesCurrentSpec.j0]) (ev_neg (by decide) ?_)
      simp only [hv,hu,Option.bind_some]
      exact Ev.bind hv2 (Ev.bind hu2 (ev_pos rfl (ev_pos rfl (ev_pos (by simp) (ev_pos rfl (ev_pos rfl (ev_pos (by simp) (ev_id _ (by simp)))))))))
end Go.Proofs.YtjbcfdgnafmbkaaDoor.Dev
end
