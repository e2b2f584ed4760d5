/- Lemmas, walks and printed functions for the claim. -/
import Derived.Test.YtjbcfdgnafmbkaaDoorSDSpec2
import Derived.Test.YtjbcfdgnafmbkaaDoorSDSpec16
import Derived.Test.YtjbcfdgnafmbkaaDoorSDSpec19
import Derived.Test.YtjbcfdgnafmbkaaDoorSDSpec21
import Derived.Test.YtjbcfdgnafmbkaaDoorSDSpec22
import Derived.Test.YtjbcfdgnafmbkaaDoorSDSpec23
import Derived.Test.YtjbcfdgnafmbkaaDoorSDSpec24
import Derived.Lib.SlBytesConst
section
set_option linter.unusedVariables false
namespace Go.Proofs.YtjbcfdgnafmbkaaDoor.Dev
open Go.RowKit Go.Proofs.YtjbcfdgnafmbkaaDoor Go.Proofs.YtjbcfdgnafmbkaaDoorW.PrintWords Go.Proofs.YtjbcfdgnafmbkaaDoor.PBig
theorem lit_C {α : Type} (d : Kd α) (W : World) (e : TypeId) (fr : Nat × Nat) (xs : List α) (inner : List Value) (hm : xs.length ≤ 1000) (hl : inner.length = xs.length * d.sz) (hr : ∀ W' j p, xs[j]? = some p → d.K W' p ((inner.drop (j * d.sz)).take d.sz)) :
    d.C (W.alloc (.cells inner.toArray e fr)) (some ⟨W.heap.size, 0, none⟩) xs.length xs := by
  refine ⟨rfl, by omega, fun _ => ⟨_, rfl, fun j p hj => ⟨(inner.drop (j * d.sz)).take d.sz, ?_, hr _ j p hj, fun i u hu => ?_⟩⟩⟩
  · have hjl := (List.getElem?_eq_some_iff.1 hj).1
    have : j * d.sz + d.sz ≤ inner.length := by rw [hl, ← Nat.succ_mul]; exact Nat.mul_le_mul_right _ hjl
    rw [List.length_take, List.length_drop]; omega
  · rw [add_plain, cell_of_row _ W.heap.size _ inner.toArray e fr (blk_new W _)]
    rw [List.getElem?_take, List.getElem?_drop] at hu
    split at hu
    · simpa using hu
    · cases hu
theorem two_C (W : World) : Kd.C k65 (W.alloc (.cells #[.int .i64 3, .int .i64 10, .int .i64 0, .int .i64 0, .int .i64 4, .bool false, .int .i64 4, .int .i64 20, .int .i64 0, .int .i64 0, .int .i64 16, .bool false] 65)) (some ⟨W.heap.size, 0, none⟩) 2 two :=
  lit_C k65 W 65 (0, 0) two _ (by decide) rfl (fun W' j p hj => by
    match j, hj with
    | 0, hj => cases hj; exact k65_mk W' _
    | 1, hj => cases hj; exact k65_mk W' _)
theorem one_C (W : World) : Kd.C k65 (W.alloc (.cells #[.int .i64 0, .int .i64 0, .int .i64 0, .int .i64 0, .int .i64 1, .bool false] 65)) (some ⟨W.heap.size, 0, none⟩) 1 [⟨0, 0, 0, 0, 1, false⟩] :=
  lit_C k65 W 65 (0, 0) [⟨0, 0, 0, 0, 1, false⟩] _ (by decide) rfl (fun W' j p hj => by
    match j, hj with
    | 0, hj => cases hj; exact k65_mk W' _)
theorem pair_C (W : World) : Kd.C k65 (W.alloc (.cells #[.int .i64 0, .int .i64 0, .int .i64 0, .int .i64 0, .int .i64 4, .bool false, .int .i64 1, .int .i64 0, .int .i64 0, .int .i64 1, .int .i64 4, .bool false] 65)) (some ⟨W.heap.size, 0, none⟩) 2 [⟨0, 0, 0, 0, 4, false⟩, ⟨1, 0, 0, 1, 4, false⟩] :=
  lit_C k65 W 65 (0, 0) [⟨0, 0, 0, 0, 4, false⟩, ⟨1, 0, 0, 1, 4, false⟩] _ (by decide) rfl (fun W' j p hj => by
    match j, hj with
    | 0, hj => cases hj; exact k65_mk W' _
    | 1, hj => cases hj; exact k65_mk W' _)
theorem txt_C (W : World) (fr : Nat × Nat) : Kd.C (Kd.int .u8) (W.alloc (.cells #[.int .u8 116, .int .u8 101, .int .u8 120, .int .u8 116] 5 fr)) (some ⟨W.heap.size, 0, none⟩) 4 txt :=
  lit_C (Kd.int .u8) W 5 fr txt [.int .u8 116, .int .u8 101, .int .u8 120, .int .u8 116] (by decide) rfl (fun W' j p hj => by
    match j, hj with
    | 0, hj => cases hj; exact rfl
    | 1, hj => cases hj; exact rfl
    | 2, hj => cases hj; exact rfl
    | 3, hj => cases hj; exact rfl)
theorem ab_C (W : World) (a b : Int) : Kd.C (Kd.int .i64) (W.alloc (.cells #[.int .i64 a, .int .i64 b] 3)) (some ⟨W.heap.size, 0, none⟩) 2 [a, b] :=
  lit_C (Kd.int .i64) W 3 (0, 0) [a, b] [.int .i64 a, .int .i64 b] (by simp) rfl (fun W' j p hj => by
    match j, hj with
    | 0, hj => cases hj; exact rfl
    | 1, hj => cases hj; exact rfl)
theorem s_add {l : List S65} {c : Nat} (A : Option Addr) (W : World) (x : S65) (r : List S65) (n : Int) (hC : Kd.C k65 W A l.length l) (hc : l.length ≤ c) (h : devices_Add.f l x.f0 x.f1 x.f2 x.f3 x.f4 x.f5 = some (r, n)) :
    Calls Tryd.prog 42 #[.slice A l.length c, argD x] W fun e w' => ∃ A' c', e = .returned (.tuple #[.slice A' r.length c', .int .i64 n]) ∧ r.length ≤ c' ∧ Kd.C k65 w' A' r.length r ∧ Below W.heap.size W w' :=
  (devices_Add.calls A c l x.f0 x.f1 x.f2 x.f3 x.f4 x.f5 r n W hC hc h).mono fun e w' ⟨v, e1, hR, hb⟩ => by
    obtain ⟨A', c', rfl, h1, h2⟩ := Kd.R_reads hR
    exact ⟨A', c', e1, h1, h2, hb⟩
theorem s_add1 (A : Option Addr) (W : World) (hC : Kd.C k65 W A 2 two) : Calls Tryd.prog 42 #[.slice A 2 2, .agg #[.int .i64 9, .int .i64 30, .int .i64 0, .int .i64 0, .int .i64 0, .bool true]] W fun e w' => ∃ A' c', e = .returned (.tuple #[.slice A' 3 c', .int .i64 0]) ∧ 3 ≤ c' ∧ Kd.C k65 w' A' 3 lost ∧ Below W.heap.size W w' :=
  s_add (l := two) (c := 2) A W ⟨9, 30, 0, 0, 0, true⟩ lost 0 hC (by decide) add1
theorem s_add2 (A : Option Addr) (W : World) (hC : Kd.C k65 W A 2 two) : Calls Tryd.prog 42 #[.slice A 2 2, .agg #[.int .i64 5, .int .i64 0, .int .i64 0, .int .i64 0, .int .i64 4, .bool false]] W fun e w' => ∃ v, e = .returned (.tuple #[v, .int .i64 151]) ∧ Below W.heap.size W w' :=
  (s_add (l := two) (c := 2) A W ⟨5, 0, 0, 0, 4, false⟩ [] 151 hC (by decide) add2).mono fun e w' ⟨_, _, e1, _, _, hb⟩ => ⟨_, e1, hb⟩
theorem s_add3 (A : Option Addr) (W : World) (hC : Kd.C k65 W A 2 two) : Calls Tryd.prog 42 #[.slice A 2 2, .agg #[.int .i64 3, .int .i64 0, .int .i64 0, .int .i64 0, .int .i64 64, .bool false]] W fun e w' => ∃ v, e = .returned (.tuple #[v, .int .i64 151]) ∧ Below W.heap.size W w' :=
  (s_add (l := two) (c := 2) A W ⟨3, 0, 0, 0, 64, false⟩ [] 151 hC (by decide) add3).mono fun e w' ⟨_, _, e1, _, _, hb⟩ => ⟨_, e1, hb⟩
theorem s_add4 (A : Option Addr) (W : World) (hC : Kd.C k65 W A 2 two) : Calls Tryd.prog 42 #[.slice A 2 2, .agg #[.int .i64 5, .int .i64 0, .int .i64 0, .int .i64 0, .int .i64 1, .bool false]] W fun e w' => ∃ v, e = .returned (.tuple #[v, .int .i64 480]) ∧ Below W.heap.size W w' :=
  (s_add (l := two) (c := 2) A W ⟨5, 0, 0, 0, 1, false⟩ [] 480 hC (by decide) add4).mono fun e w' ⟨_, _, e1, _, _, hb⟩ => ⟨_, e1, hb⟩
theorem s_cur (W : World) : Calls Tryd.prog 47 #[.slice none 0 0, .int .i64 64, .int .i64 0, .int .i64 0] W fun e w' => e = .returned (.tuple #[.int .i64 0, .int .i64 0, .bool false, .int .i64 1]) ∧ Below W.heap.size W w' :=
  devices_Current.calls none 0 [] 64 0 0 0 0 false 1 W (Kd.C_nil _ _) (Nat.le_refl _) cur1
theorem s_sign (A : Option Addr) (W : World) (hLd : Sha.Laid W) (hC : Kd.C (Kd.int .u8) W A 4 txt) : Calls Tryd.prog 54 #[.int .i64 2, .slice A 4 4] W fun e w' => e = .returned (.tuple #[.agg #[.int .i64 (Cod.sgE 2 txt), .int .i64 (Cod.sgS 2 txt)], .int .i64 0]) ∧ Below W.heap.size W w' :=
  sign_Sign.calls 2 A 4 txt _ _ _ W hLd hC (by decide) sgn
theorem cur_two20 : devices_current.v two 0 20 0 = (⟨4, 20, 0, 0, 16, false⟩, true, 0) := by
  rw [curv_ok chk_two (by decide)]
  simp [cur, two, bestD, stepD, selB]
theorem cur_two19 : devices_current.v two 0 19 0 = (⟨3, 10, 0, 0, 4, false⟩, true, 0) := by
  rw [curv_ok chk_two (by decide)]
  simp [cur, two, bestD, stepD, selB]
theorem cur_two9 : devices_current.v two 0 9 0 = (z65, false, 0) := by
  rw [curv_ok chk_two (by decide)]
  simp [cur, two, bestD, selB]
theorem cur_nil0 : devices_current.v [] 0 0 0 = (z65, false, 0) := by
  rw [curv_ok chk_nil (by decide)]
  simp [cur, bestD]
theorem cur_lost29 : devices_current.v lost 0 29 0 = (⟨4, 20, 0, 0, 16, false⟩, true, 0) := by
  rw [curv_ok chk_lost (by decide)]
  simp [cur, lost, bestD, stepD, selB]
theorem cur_lost30 : devices_current.v lost 0 30 0 = (⟨9, 30, 0, 0, 0, true⟩, false, 0) := by
  rw [curv_ok chk_lost (by decide)]
  simp [cur, lost, bestD, stepD, selB]
theorem acc20 : devices_Accepts.f two 0 txt (Cod.sgE 2 txt) (Cod.sgS 2 txt) 20 0 = some (4, true, 0) := by
  have h := verify_sign 2 txt (by decide) (by decide)
  rw [pow_42] at h
  rw [acc_f _ _ _ _ _ _ _ (by simp [txt]), cur_two20, if_pos ⟨rfl, rfl, h⟩]
theorem acc9 : devices_Accepts.f two 0 txt (Cod.sgE 2 txt) (Cod.sgS 2 txt) 9 0 = some (0, false, 0) := by
  rw [acc_f _ _ _ _ _ _ _ (by simp [txt]), cur_two9, if_neg (fun h => by cases h.2.1)]
theorem s_acc20 (A A2 : Option Addr) (W : World) (hLd : Sha.Laid W) (hC : Kd.C k65 W A 2 two) (hC2 : Kd.C (Kd.int .u8) W A2 4 txt) : Calls Tryd.prog 49 #[.slice A 2 2, .int .i64 0, .slice A2 4 4, .agg #[.int .i64 (Cod.sgE 2 txt), .int .i64 (Cod.sgS 2 txt)], .int .i64 20, .int .i64 0] W fun e w' => e = .returned (.tuple #[.int .i64 4, .bool true, .int .i64 0]) ∧ Below W.heap.size W w' :=
  devices_Accepts.calls A 2 two 0 A2 4 txt _ _ 20 0 _ _ _ W hLd hC (by decide) hC2 (by decide) acc20
theorem s_acc9 (A A2 : Option Addr) (W : World) (hLd : Sha.Laid W) (hC : Kd.C k65 W A 2 two) (hC2 : Kd.C (Kd.int .u8) W A2 4 txt) : Calls Tryd.prog 49 #[.slice A 2 2, .int .i64 0, .slice A2 4 4, .agg #[.int .i64 (Cod.sgE 2 txt), .int .i64 (Cod.sgS 2 txt)], .int .i64 9, .int .i64 0] W fun e w' => e = .returned (.tuple #[.int .i64 0, .bool false, .int .i64 0]) ∧ Below W.heap.size W w' :=
  devices_Accepts.calls A 2 two 0 A2 4 txt _ _ 9 0 _ _ _ W hLd hC (by decide) hC2 (by decide) acc9
theorem is_none {l : List S65} {t : Int} (h1 : (devices_current.v l 0 t 0).2.1 = false) (h2 : (devices_current.v l 0 t 0).2.2 = 0) : signatorylaw48_is.f l t [] = some true := by
  unfold signatorylaw48_is.f
  rw [cur_f, h1, h2]
  simp
theorem is_some {l : List S65} {t a b : Int} (h1 : (devices_current.v l 0 t 0).2.1 = true) (h2 : (devices_current.v l 0 t 0).2.2 = 0) (h3 : (devices_current.v l 0 t 0).1.f0 = a) (h4 : (devices_current.v l 0 t 0).1.f4 = b) : signatorylaw48_is.f l t [a, b] = some true := by
  unfold signatorylaw48_is.f
  rw [cur_f, h1, h2, h3, h4]
  simp [rd]
theorem s_is0 (W : World) : Calls Tryd.prog 73 #[.slice none 0 0, .int .i64 0, .slice none 0 0] W fun e w' => e = .returned (.bool true) ∧ Below W.heap.size W w' :=
  signatorylaw48_is.calls none 0 [] 0 none 0 [] true W (Kd.C_nil _ _) (Nat.le_refl _) (Kd.C_nil _ _) (Nat.le_refl _) (is_none (by rw [cur_nil0]) (by rw [cur_nil0]))
theorem s_is9 (A : Option Addr) (W : World) (hC : Kd.C k65 W A 2 two) : Calls Tryd.prog 73 #[.slice A 2 2, .int .i64 9, .slice none 0 0] W fun e w' => e = .returned (.bool true) ∧ Below W.heap.size W w' :=
  signatorylaw48_is.calls A 2 two 9 none 0 [] true W hC (by decide) (Kd.C_nil _ _) (Nat.le_refl _) (is_none (by rw [cur_two9]) (by rw [cur_two9]))
theorem s_is19 (A A2 : Option Addr) (W : World) (hC : Kd.C k65 W A 2 two) (hC2 : Kd.C (Kd.int .i64) W A2 2 [3, 4]) : Calls Tryd.prog 73 #[.slice A 2 2, .int .i64 19, .slice A2 2 2] W fun e w' => e = .returned (.bool true) ∧ Below W.heap.size W w' :=
  signatorylaw48_is.calls A 2 two 19 A2 2 [3, 4] true W hC (by decide) hC2 (by decide) (is_some (by rw [cur_two19]) (by rw [cur_two19]) (by rw [cur_two19]) (by rw [cur_two19]))
theorem s_is20 (A A2 : Option Addr) (W : World) (hC : Kd.C k65 W A 2 two) (hC2 : Kd.C (Kd.int .i64) W A2 2 [4, 16]) : Calls Tryd.prog 73 #[.slice A 2 2, .int .i64 20, .slice A2 2 2] W fun e w' => e = .returned (.bool true) ∧ Below W.heap.size W w' :=
  signatorylaw48_is.calls A 2 two 20 A2 2 [4, 16] true W hC (by decide) hC2 (by decide) (is_some (by rw [cur_two20]) (by rw [cur_two20]) (by rw [cur_two20]) (by rw [cur_two20]))
theorem s_is29 (A A2 : Option Addr) (c : Nat) (W : World) (hC : Kd.C k65 W A 3 lost) (hc : 3 ≤ c) (hC2 : Kd.C (Kd.int .i64) W A2 2 [4, 16]) : Calls Tryd.prog 73 #[.slice A 3 c, .int .i64 29, .slice A2 2 2] W fun e w' => e = .returned (.bool true) ∧ Below W.heap.size W w' :=
  signatorylaw48_is.calls A c lost 29 A2 2 [4, 16] true W hC hc hC2 (by decide) (is_some (by rw [cur_lost29]) (by rw [cur_lost29]) (by rw [cur_lost29]) (by rw [cur_lost29]))
theorem s_is30 (A : Option Addr) (c : Nat) (W : World) (hC : Kd.C k65 W A 3 lost) (hc : 3 ≤ c) : Calls Tryd.prog 73 #[.slice A 3 c, .int .i64 30, .slice none 0 0] W fun e w' => e = .returned (.bool true) ∧ Below W.heap.size W w' :=
  signatorylaw48_is.calls A c lost 30 none 0 [] true W hC hc (Kd.C_nil _ _) (Nat.le_refl _) (is_none (by rw [cur_lost30]) (by rw [cur_lost30]))
theorem s_chk0 (A : Option Addr) (W : World) (hC : Kd.C k65 W A 2 two) : Calls Tryd.prog 44 #[.slice A 2 2] W fun e w' => e = .returned (.int .i64 0) ∧ Below W.heap.size W w' := by
  have := check_c two A 2 W hC
  rw [chk_two] at this
  exact this
theorem s_chk1 (A : Option Addr) (W : World) (hC : Kd.C k65 W A 1 [⟨0, 0, 0, 0, 1, false⟩]) : Calls Tryd.prog 44 #[.slice A 1 1] W fun e w' => e = .returned (.int .i64 480) ∧ Below W.heap.size W w' := by
  have := check_c [⟨0, 0, 0, 0, 1, false⟩] A 1 W hC
  rw [show chk [⟨0, 0, 0, 0, 1, false⟩] = 480 by simp [chk, chkG, rightD]] at this
  exact this
theorem s_chk2 (A : Option Addr) (W : World) (hC : Kd.C k65 W A 2 [⟨0, 0, 0, 0, 4, false⟩, ⟨1, 0, 0, 1, 4, false⟩]) : Calls Tryd.prog 44 #[.slice A 2 2] W fun e w' => e = .returned (.int .i64 480) ∧ Below W.heap.size W w' := by
  have := check_c [⟨0, 0, 0, 0, 4, false⟩, ⟨1, 0, 0, 1, 4, false⟩] A 2 W hC
  rw [show chk [⟨0, 0, 0, 0, 4, false⟩, ⟨1, 0, 0, 1, 4, false⟩] = 480 by simp [chk, chkG, rightD, inB, v4, usedB]] at this
  exact this
theorem below_two {W w1 : World} {A : Option Addr} (h : Kd.C k65 W A 2 two) (hb : Below W.heap.size W w1) : Kd.C k65 w1 A 2 two := Kd.C_below h hb
set_option maxHeartbeats 4000000 in
set_option maxRecDepth 100000 in
theorem sane_walk (w : World) (hLd : Sha.Laid w) : Calls Tryd.prog 40 #[] w fun e w' => e = .returned (.bool true) ∧ Below w.heap.size w w' := by
  have HL := Lib.hid hLd
  have HS := Lib.hid s_sign
  have HA20 := Lib.hid s_acc20
  have HA9 := Lib.hid s_acc9
  generalize Cod.sgE 2 txt = E at HS HA20 HA9
  generalize Cod.sgS 2 txt = S at HS HA20 HA9
  clear hLd
  have kc := fun (w : World) (C : Array Value) (n c : Nat) => Lib.run_convert_bytes_const (P := Tryd.prog) w 22 5 C n c Tryd.underlying22 Tryd.underlying5
  go_enter Tryd.func40, Tryd.ntmps40
  go_wp2_with fail
  refine (s_add1 _ _ (two_C w)).mono ?_
  rintro e w1 ⟨A3, c3, rfl, hc3, hC3, hb⟩
  have HC := Lib.hid (below_two (two_C w) hb)
  have HC3 := Lib.hid hC3
  have Hc3 := Lib.hid hc3
  have HB := Lib.hid (below_step (below_alloc (Below.refl _ w) _) hb)
  clear hb hC3 hc3
  go_wp2_with fail
  refine (s_add2 _ _ HC.out).mono ?_
  rintro e w2 ⟨v5, rfl, hb⟩
  replace HC := Lib.hid (below_two HC.out hb)
  replace HC3 := Lib.hid (Kd.C_below HC3.out hb)
  replace HB := Lib.hid (below_step HB.out hb)
  clear hb
  go_wp2_with fail
  refine (s_add3 _ _ HC.out).mono ?_
  rintro e w3 ⟨v7, rfl, hb⟩
  replace HC := Lib.hid (below_two HC.out hb)
  replace HC3 := Lib.hid (Kd.C_below HC3.out hb)
  replace HB := Lib.hid (below_step HB.out hb)
  clear hb
  go_wp2_with fail
  refine (s_add4 _ _ HC.out).mono ?_
  rintro e w4 ⟨v9, rfl, hb⟩
  replace HC := Lib.hid (below_two HC.out hb)
  replace HC3 := Lib.hid (Kd.C_below HC3.out hb)
  replace HB := Lib.hid (below_step HB.out hb)
  clear hb
  go_wp2_with fail
  refine (s_cur _).mono ?_
  rintro e w5 ⟨rfl, hb⟩
  replace HC := Lib.hid (below_two HC.out hb)
  replace HC3 := Lib.hid (Kd.C_below HC3.out hb)
  replace HB := Lib.hid (below_step HB.out hb)
  clear hb
  go_wp2_with fail
  refine (HS.out _ _ (Cod.Laid.below HL.out (below_alloc HB.out _)) (txt_C w5 _)).mono ?_
  rintro e w6 ⟨rfl, hb⟩
  replace HC := Lib.hid (below_two (Kd.C_alloc HC.out _) hb)
  replace HC3 := Lib.hid (Kd.C_below (Kd.C_alloc HC3.out _) hb)
  replace HB := Lib.hid (below_step (below_alloc HB.out _) hb)
  clear hb HS
  have kc6 := fun (C : Array Value) (n c : Nat) => Lib.run_convert_bytes_const (P := Tryd.prog) (w6.alloc (.cells #[.int .i64 E, .int .i64 S] 73)) 22 5 C n c Tryd.underlying22 Tryd.underlying5
  have hC6 := txt_C (w6.alloc (.cells #[.int .i64 E, .int .i64 S] 73)) (4, 4 + 1)
  rw [World.size_alloc] at kc6 hC6
  have HC6 := Lib.hid hC6
  have BK6 := Lib.hid (blk_alloc (blk_new w6 (.cells #[.int .i64 E, .int .i64 S] 73)) (.cells #[.int .u8 116, .int .u8 101, .int .u8 120, .int .u8 116] 5 (4, 4 + 1)))
  clear hC6
  go_wp2_with fail
  refine (HA20.out _ _ _ (Cod.Laid.below HL.out (below_alloc (below_alloc HB.out _) _)) (Kd.C_alloc (Kd.C_alloc HC.out _) _) HC6.out).mono ?_
  rintro e w7 ⟨rfl, hb⟩
  replace HC := Lib.hid (below_two (Kd.C_alloc (Kd.C_alloc HC.out _) _) hb)
  replace HC3 := Lib.hid (Kd.C_below (Kd.C_alloc (Kd.C_alloc HC3.out _) _) hb)
  replace HB := Lib.hid (below_step (below_alloc (below_alloc HB.out _) _) hb)
  have BK7 := Lib.hid (blk_below BK6.out hb)
  have q0 : w7.cell? ⟨w6.heap.size, 0, none⟩ = some (.int .i64 E) := (blk_cell BK7.out 0).trans rfl
  have q1 : w7.cell? ⟨w6.heap.size, 1, none⟩ = some (.int .i64 S) := (blk_cell BK7.out 1).trans rfl
  have hlt : w6.heap.size < w7.heap.size := blk_lt BK7.out
  have hne : ¬ w6.heap.size = w7.heap.size := by omega
  clear hb HA20 kc6 HC6 BK6
  go_wp2_with fail
  refine (HA9.out _ _ _ (Cod.Laid.below HL.out (below_alloc HB.out _)) (Kd.C_alloc HC.out _) (txt_C w7 _)).mono ?_
  rintro e w8 ⟨rfl, hb⟩
  replace HC := Lib.hid (below_two (Kd.C_alloc HC.out _) hb)
  replace HC3 := Lib.hid (Kd.C_below (Kd.C_alloc HC3.out _) hb)
  replace HB := Lib.hid (below_step (below_alloc HB.out _) hb)
  clear hb HA9 q0 q1 hlt hne BK7
  go_wp2_with fail
  refine (s_is0 _).mono ?_
  rintro e w9 ⟨rfl, hb⟩
  replace HC := Lib.hid (below_two HC.out hb)
  replace HC3 := Lib.hid (Kd.C_below HC3.out hb)
  replace HB := Lib.hid (below_step HB.out hb)
  clear hb
  go_wp2_with fail
  refine (s_is9 _ _ HC.out).mono ?_
  rintro e w10 ⟨rfl, hb⟩
  replace HC := Lib.hid (below_two HC.out hb)
  replace HC3 := Lib.hid (Kd.C_below HC3.out hb)
  replace HB := Lib.hid (below_step HB.out hb)
  clear hb
  go_wp2_with fail
  refine (s_is19 _ _ _ (Kd.C_alloc HC.out _) (ab_C w10 3 4)).mono ?_
  rintro e w11 ⟨rfl, hb⟩
  replace HC := Lib.hid (below_two (Kd.C_alloc HC.out _) hb)
  replace HC3 := Lib.hid (Kd.C_below (Kd.C_alloc HC3.out _) hb)
  replace HB := Lib.hid (below_step (below_alloc HB.out _) hb)
  clear hb
  go_wp2_with fail
  refine (s_is20 _ _ _ (Kd.C_alloc HC.out _) (ab_C w11 4 16)).mono ?_
  rintro e w12 ⟨rfl, hb⟩
  replace HC := Lib.hid (below_two (Kd.C_alloc HC.out _) hb)
  replace HC3 := Lib.hid (Kd.C_below (Kd.C_alloc HC3.out _) hb)
  replace HB := Lib.hid (below_step (below_alloc HB.out _) hb)
  clear hb
  go_wp2_with fail
  refine (s_is29 _ _ _ _ (Kd.C_alloc HC3.out _) Hc3.out (ab_C w12 4 16)).mono ?_
  rintro e w13 ⟨rfl, hb⟩
  replace HC := Lib.hid (below_two (Kd.C_alloc HC.out _) hb)
  replace HC3 := Lib.hid (Kd.C_below (Kd.C_alloc HC3.out _) hb)
  replace HB := Lib.hid (below_step (below_alloc HB.out _) hb)
  clear hb
  go_wp2_with fail
  refine (s_is30 _ _ _ HC3.out Hc3.out).mono ?_
  rintro e w14 ⟨rfl, hb⟩
  replace HC := Lib.hid (below_two HC.out hb)
  replace HB := Lib.hid (below_step HB.out hb)
  clear hb
  go_wp2_with fail
  refine (s_chk0 _ _ HC.out).mono ?_
  rintro e w15 ⟨rfl, hb⟩
  replace HB := Lib.hid (below_step HB.out hb)
  clear hb
  go_wp2_with fail
  refine (s_chk1 _ _ (one_C w15)).mono ?_
  rintro e w16 ⟨rfl, hb⟩
  replace HB := Lib.hid (below_step (below_alloc HB.out _) hb)
  clear hb
  go_wp2_with fail
  refine (s_chk2 _ _ (pair_C w16)).mono ?_
  rintro e w17 ⟨rfl, hb⟩
  replace HB := Lib.hid (below_step (below_alloc HB.out _) hb)
  clear hb
  go_wp2
  go_ret
  exact ⟨rfl, HB.out⟩
theorem sane_ev : Ev (fun k => signatorylaw48_sane.f k) true := by
  have i0 : signatorylaw48_is.f [] 0 [] = some true := is_none (by rw [cur_nil0]) (by rw [cur_nil0])
  have i9 : signatorylaw48_is.f two 9 [] = some true := is_none (by rw [cur_two9]) (by rw [cur_two9])
  have i19 : signatorylaw48_is.f two 19 [3, 4] = some true := is_some (by rw [cur_two19]) (by rw [cur_two19]) (by rw [cur_two19]) (by rw [cur_two19])
  have i20 : signatorylaw48_is.f two 20 [4, 16] = some true := is_some (by rw [cur_two20]) (by rw [cur_two20]) (by rw [cur_two20]) (by rw [cur_two20])
  have i29 : signatorylaw48_is.f lost 29 [4, 16] = some true := is_some (by rw [cur_lost29]) (by rw [cur_lost29]) (by rw [cur_lost29]) (by rw [cur_lost29])
  have i30 : signatorylaw48_is.f lost 30 [] = some true := is_none (by rw [cur_lost30]) (by rw [cur_lost30])
  have c0 : devices_Check.f two = some 0 := by unfold devices_Check.f; rw [chk_two]
  have c1 : devices_Check.f [⟨0, 0, 0, 0, 1, false⟩] = some 480 := by unfold devices_Check.f; rw [show chk [⟨0, 0, 0, 0, 1, false⟩] = 480 by simp [chk, chkG, rightD]]
  have c2 : devices_Check.f [⟨0, 0, 0, 0, 4, false⟩, ⟨1, 0, 0, 1, 4, false⟩] = some 480 := by unfold devices_Check.f; rw [show chk [⟨0, 0, 0, 0, 4, false⟩, ⟨1, 0, 0, 1, 4, false⟩] = 480 by simp [chk, chkG, rightD, inB, v4, usedB]]
  refine ⟨1, fun k hk => ?_⟩
  obtain ⟨k, rfl⟩ : ∃ m, k = m + 1 := ⟨k - 1, by omega⟩
  show signatorylaw48_sane.f (k + 1) = some true
  unfold signatorylaw48_sane.f
  rw [Option.bind_some]
  have e2 : ([(⟨3, 10, 0, 0, 4, false⟩ : S65), (⟨4, 20, 0, 0, 16, false⟩ : S65)] : List S65) = two := rfl
  have e3 : ([116, 101, 120, 116] : List Int) = txt := rfl
  rw [e2, e3, add1, Option.bind_some, add2, Option.bind_some, add3, Option.bind_some, add4, Option.bind_some, cur1, Option.bind_some, sgn, Option.bind_some, acc20, Option.bind_some, acc9, Option.bind_some]
  rw [if_pos rfl, if_pos rfl, if_pos rfl, if_pos rfl, if_pos rfl, if_pos rfl, if_pos rfl, if_pos rfl, if_pos (show ((lost.length : Nat) : Int) = 3 from rfl), if_pos rfl, if_pos rfl, signatorylaw48_sane.j0, if_neg (by decide), i0, Option.bind_some, if_pos rfl, i9, Option.bind_some, if_pos rfl, i19, Option.bind_some, if_pos rfl, i20, Option.bind_some, if_pos rfl, i29, Option.bind_some, if_pos rfl, i30, Option.bind_some, if_pos rfl, c0, Option.bind_some, if_pos rfl, c1, Option.bind_some, if_pos rfl, c2, Option.bind_some]
  rfl
end Go.Proofs.YtjbcfdgnafmbkaaDoor.Dev
namespace Go.Proofs.YtjbcfdgnafmbkaaDoor.PBig
open Go.RowKit Go.Proofs.YtjbcfdgnafmbkaaDoor Go.Proofs.YtjbcfdgnafmbkaaDoorW.PrintWords
theorem signatorylaw48_sane.calls (k : Nat) (r : Bool) (w : World) (hLd : Sha.Laid w) (h : signatorylaw48_sane.f k = some r) :
    Calls Tryd.prog 40 #[] w fun e w' => e = .returned (.bool r) ∧ Below w.heap.size w w' := by
  obtain ⟨K, hK⟩ := Dev.sane_ev
  have h1 := hK (max K k) (by omega)
  have h2 := at_rounds (g := fun k => signatorylaw48_sane.f k) (fun k => signatorylaw48_sane.mono k) (show k ≤ max K k by omega) h
  obtain rfl := Option.some.inj (h2.symm.trans h1)
  exact Dev.sane_walk w hLd
end Go.Proofs.YtjbcfdgnafmbkaaDoor.PBig
end
section
namespace Go.Proofs.YtjbcfdgnafmbkaaDoor.PBig
open Go.RowKit Go.Proofs.YtjbcfdgnafmbkaaDoorW.PrintWords Go.Proofs.YtjbcfdgnafmbkaaDoorW.PrintLast Go.Proofs.YtjbcfdgnafmbkaaDoorW.PrintMore
attribute [local go_sem] max2_int min2_int max_two min_two max_three min_three max_four min_four
set_option linter.unusedVariables false
set_option linter.unusedSimpArgs false
attribute [local go_sem high] eqA65
def signatoryref48_Same.l0 : Nat → List (S65) → List (S65) → Int → Option (Bool)
  | 0, _, _, _ => none
  | k + 1, x0, x1, x5 => if x5 < (x0.length : Int) then (if 0 ≤ x5 then (if x5 < (x1.length : Int) then (if (!(((rd_T65 x0 x5).f0) == ((rd_T65 x1 x5).f0)) || (!(((rd_T65 x0 x5).f1) == ((rd_T65 x1 x5).f1)) || (!(((rd_T65 x0 x5).f2) == ((rd_T65 x1 x5).f2)) || (!(((rd_T65 x0 x5).f3) == ((rd_T65 x1 x5).f3)) || (!(((rd_T65 x0 x5).f4) == ((rd_T65 x1 x5).f4)) || (!(((rd_T65 x0 x5).f5) == ((rd_T65 x1 x5).f5)))))))) = true then (some false) else (signatoryref48_Same.l0 k x0 x1 (wrap64 (x5 + 1)))) else (none)) else (none)) else (some true)
def signatoryref48_Same.f (k : Nat) (l0 : List (S65)) (l1 : List (S65)) : Option (Bool) := if (l0.length : Int) = (l1.length : Int) then (signatoryref48_Same.l0 k l0 l1 0) else (some false)
theorem signatoryref48_Same.mono_l : ∀ k, (∀ y0 y1 y2, LeO (signatoryref48_Same.l0 k y0 y1 y2) (signatoryref48_Same.l0 (k + 1) y0 y1 y2))
  | 0 => fun _ _ _ r h => by simp [signatoryref48_Same.l0] at h
  | k + 1 => by
    have ih0 := signatoryref48_Same.mono_l k
    · intro y0 y1 y2
      unfold signatoryref48_Same.l0
      repeat' first
      | (with_reducible exact ih0 _ _ _)
      | (with_reducible exact LeO.refl _)
      | (with_reducible exact LeO.none _)
      | (with_reducible refine LeO.ite ?_ ?_)
      | (with_reducible refine LeO.bind ?_ (fun _ => ?_))
      | exact ih0 _ _ _
      | exact LeO.none _
      | refine LeO.ite ?_ ?_
      | refine LeO.bind ?_ (fun _ => ?_)
theorem signatoryref48_Same.mono : ∀ a0 a1 k, LeO (signatoryref48_Same.f k a0 a1) (signatoryref48_Same.f (k + 1) a0 a1) := by
  intro a0 a1 k
  have ih0 := signatoryref48_Same.mono_l k
  unfold signatoryref48_Same.f
  repeat' first
      | (with_reducible exact ih0 _ _ _)
      | (with_reducible exact LeO.refl _)
      | (with_reducible exact LeO.none _)
      | (with_reducible refine LeO.ite ?_ ?_)
      | (with_reducible refine LeO.bind ?_ (fun _ => ?_))
      | exact ih0 _ _ _
      | exact LeO.none _
      | refine LeO.ite ?_ ?_
      | refine LeO.bind ?_ (fun _ => ?_)
set_option maxHeartbeats 8000000 in
set_option maxRecDepth 100000 in
theorem signatoryref48_Same.calls (k : Nat) (A0 : Option Addr) (c0 : Nat) (l0 : List (S65)) (A1 : Option Addr) (c1 : Nat) (l1 : List (S65)) (r : Bool) (w : World) (hr0 : Kd.C k65 w A0 l0.length l0) (hc0 : l0.length ≤ c0) (hr1 : Kd.C k65 w A1 l1.length l1) (hc1 : l1.length ≤ c1) (h : signatoryref48_Same.f k l0 l1 = some r) :
    Calls Tryd.prog 46 #[.slice A0 l0.length c0, .slice A1 l1.length c1] w fun e w' => e = .returned (.bool r) ∧ Drawn0 w w' := by
  have hu65 := Tryd.underlying65
  have HR0 := Aside0.mk hr0
  have HC0 := Aside0.mk hc0
  clear hr0 hc0
  have HR1 := Aside0.mk hr1
  have HC1 := Aside0.mk hc1
  clear hr1 hc1
  have H : (if (l0.length : Int) = (l1.length : Int) then (signatoryref48_Same.l0 k l0 l1 0) else (some false)) = some r := h
  clear h
  by_cases c3 : (l0.length : Int) = (l1.length : Int)
  · rw [if_pos c3] at H
    have c3b0 : ((l0.length : Int) == (l1.length : Int)) = true := beq_iff_eq.mpr c3
    have c3b1 : ((l0.length : Int) != (l1.length : Int)) = false := bne_eq_false_iff_eq.mpr c3
    have c3b2 : (l0.length == l1.length) = true := by first | simpa using c3 | (simp at c3 ⊢; omega)
    clear c3
    have H' := Aside0.mk H
    clear H
    go_enter Tryd.func46, Tryd.ntmps46
    go_wp2
    repeat (go_quiet (fail); try go_wp2)
    go_loopg [5] k (fun kq v5 w' => ∃ (x5_1 : Int), v5 = .int .i64 x5_1 ∧ Aside0 (signatoryref48_Same.l0 kq l0 l1 x5_1 = some r) ∧ Aside0 (kq ≤ k) ∧ Drawn0 w w')
    case atStart => exact ⟨(0), (by first | rfl | (simp; done) | (simp [*]; done)), H', ⟨Nat.le_refl _⟩, by repeat (first | exact Drawn0.refl _ | apply Drawn0.step)⟩
    case round =>
      clear H'
      try clear c1
      try clear p2
      try clear c3
      try clear c3b0
      try clear c3b1
      try clear c3b2
      obtain ⟨x5_1, rfl, HA, HK1, ⟨m1, rfl⟩⟩ := hrel
      cases gk with
      | zero => exact absurd HA.out (by simp [signatoryref48_Same.l0])
      | succ k1 =>
        have H := HA.out
        clear HA
        simp only [signatoryref48_Same.l0] at H
        by_cases c4 : x5_1 < (l0.length : Int)
        · rw [if_pos c4] at H
          have c4b0 : decide (x5_1 < (l0.length : Int)) = true := decide_eq_true c4
          clear c4
          by_cases c5 : 0 ≤ x5_1
          · rw [if_pos c5] at H
            have c5b0 : decide (0 ≤ x5_1) = true := decide_eq_true c5
            clear c5
            by_cases c6 : x5_1 < (l1.length : Int)
            · rw [if_pos c6] at H
              have c6b0 : decide (x5_1 < (l1.length : Int)) = true := decide_eq_true c6
              clear c6
              by_cases c7 : (!(((rd_T65 l0 x5_1).f0) == ((rd_T65 l1 x5_1).f0)) || (!(((rd_T65 l0 x5_1).f1) == ((rd_T65 l1 x5_1).f1)) || (!(((rd_T65 l0 x5_1).f2) == ((rd_T65 l1 x5_1).f2)) || (!(((rd_T65 l0 x5_1).f3) == ((rd_T65 l1 x5_1).f3)) || (!(((rd_T65 l0 x5_1).f4) == ((rd_T65 l1 x5_1).f4)) || (!(((rd_T65 l0 x5_1).f5) == ((rd_T65 l1 x5_1).f5)))))))) = true
              · rw [if_pos c7] at H
                have c7b0 : (!(((rd_T65 l0 x5_1).f0) == ((rd_T65 l1 x5_1).f0)) || (!(((rd_T65 l0 x5_1).f1) == ((rd_T65 l1 x5_1).f1)) || (!(((rd_T65 l0 x5_1).f2) == ((rd_T65 l1 x5_1).f2)) || (!(((rd_T65 l0 x5_1).f3) == ((rd_T65 l1 x5_1).f3)) || (!(((rd_T65 l0 x5_1).f4) == ((rd_T65 l1 x5_1).f4)) || (!(((rd_T65 l0 x5_1).f5) == ((rd_T65 l1 x5_1).f5)))))))) = true := c7
                clear c7
                obtain rfl := Option.some.inj H
                have p246 : 0 ≤ (x5_1 : Int) := of_decide_eq_true (by first | (with_reducible assumption) | assumption)
                have q246 : x5_1 < (l0.length : Int) := of_decide_eq_true (by first | (with_reducible assumption) | assumption)
                obtain ⟨ad246, e246, hx246_0, hx246_1, hx246_2, hx246_3, hx246_4, hx246_5⟩ := at_T65 HR0.out x5_1 p246 q246
                cases e246
                replace p246 := eq_true p246
                replace q246 := eq_true q246
                have p247 : 0 ≤ (x5_1 : Int) := of_decide_eq_true (by first | (with_reducible assumption) | assumption)
                have q247 : x5_1 < (l1.length : Int) := of_decide_eq_true (by first | (with_reducible assumption) | assumption)
                obtain ⟨ad247, e247, hx247_0, hx247_1, hx247_2, hx247_3, hx247_4, hx247_5⟩ := at_T65 HR1.out x5_1 p247 q247
                cases e247
                replace p247 := eq_true p247
                replace q247 := eq_true q247
                go_wp2
                repeat (go_quiet (fail); try go_wp2)
                go_ret
                exact ⟨by first | rfl | (simp; done) | (simp [*]; done), by repeat (first | exact Drawn0.refl _ | apply Drawn0.step)⟩
              · rw [if_neg c7] at H
                have c7b0 : (!(((rd_T65 l0 x5_1).f0) == ((rd_T65 l1 x5_1).f0)) || (!(((rd_T65 l0 x5_1).f1) == ((rd_T65 l1 x5_1).f1)) || (!(((rd_T65 l0 x5_1).f2) == ((rd_T65 l1 x5_1).f2)) || (!(((rd_T65 l0 x5_1).f3) == ((rd_T65 l1 x5_1).f3)) || (!(((rd_T65 l0 x5_1).f4) == ((rd_T65 l1 x5_1).f4)) || (!(((rd_T65 l0 x5_1).f5) == ((rd_T65 l1 x5_1).f5)))))))) = false := by simpa using c7
                clear c7
                have H' := Aside0.mk H
                clear H
                have p246 : 0 ≤ (x5_1 : Int) := of_decide_eq_true (by first | (with_reducible assumption) | assumption)
                have q246 : x5_1 < (l0.length : Int) := of_decide_eq_true (by first | (with_reducible assumption) | assumption)
                obtain ⟨ad246, e246, hx246_0, hx246_1, hx246_2, hx246_3, hx246_4, hx246_5⟩ := at_T65 HR0.out x5_1 p246 q246
                cases e246
                replace p246 := eq_true p246
                replace q246 := eq_true q246
                have p247 : 0 ≤ (x5_1 : Int) := of_decide_eq_true (by first | (with_reducible assumption) | assumption)
                have q247 : x5_1 < (l1.length : Int) := of_decide_eq_true (by first | (with_reducible assumption) | assumption)
                obtain ⟨ad247, e247, hx247_0, hx247_1, hx247_2, hx247_3, hx247_4, hx247_5⟩ := at_T65 HR1.out x5_1 p247 q247
                cases e247
                replace p247 := eq_true p247
                replace q247 := eq_true q247
                go_wp2
                repeat (go_quiet (fail); try go_wp2)
                go_roundg k1
                case measure => have := HK1.out; omega
                case rel => exact ⟨(wrap64 (x5_1 + 1)), (by first | rfl | (simp; done) | (simp [*]; done)), H', ⟨by have := HK1.out; omega⟩, by repeat (first | exact Drawn0.refl _ | apply Drawn0.step)⟩
            · rw [if_neg c6] at H
              exact absurd H (by simp)
          · rw [if_neg c5] at H
            exact absurd H (by simp)
        · rw [if_neg c4] at H
          have c4b0 : decide (x5_1 < (l0.length : Int)) = false := decide_eq_false c4
          clear c4
          obtain rfl := Option.some.inj H
          go_wp2
          repeat (go_quiet (fail); try go_wp2)
          go_ret
          exact ⟨by first | rfl | (simp; done) | (simp [*]; done), by repeat (first | exact Drawn0.refl _ | apply Drawn0.step)⟩
  · rw [if_neg c3] at H
    have c3b0 : ((l0.length : Int) == (l1.length : Int)) = false := beq_eq_false_iff_ne.mpr c3
    have c3b1 : ((l0.length : Int) != (l1.length : Int)) = true := bne_iff_ne.mpr c3
    have c3b2 : (l0.length == l1.length) = false := by first | simpa using c3 | (simp at c3 ⊢; omega)
    obtain rfl := Option.some.inj H
    go_enter Tryd.func46, Tryd.ntmps46
    go_wp2
    repeat (go_quiet (fail); try go_wp2)
    go_ret
    exact ⟨by first | rfl | (simp; done) | (simp [*]; done), by repeat (first | exact Drawn0.refl _ | apply Drawn0.step)⟩
def signatorylaw48_DevicesSpec.f (k : Nat) (l0 : List (S65)) (a1_0 : Int) (a1_1 : Int) (a1_2 : Int) (a1_3 : Int) (a1_4 : Int) (a1_5 : Bool) : Option (Bool) := (signatorylaw48_sane.f k).bind fun t249 => (if t249 = true then ((signatoryref48_Few.f l0).bind fun t250 => (if t250 = true then ((devices_Add.f l0 a1_0 a1_1 a1_2 a1_3 a1_4 a1_5).bind fun bt251 => ((signatoryref48_Add.f k l0 a1_0 a1_1 a1_2 a1_3 a1_4 a1_5).bind fun bt255 => ((devices_Check.f l0).bind fun t259 => ((signatoryref48_Check.f k l0).bind fun t260 => (if t259 = t260 then ((signatoryref48_Same.f k bt251.1 bt255.1).bind fun t261 => (if t261 = true then (some (bt251.2 == bt255.2)) else (some false))) else (some false)))))) else (some true))) else (some false))
theorem signatorylaw48_DevicesSpec.mono : ∀ a0 a1 a2 a3 a4 a5 a6 k, LeO (signatorylaw48_DevicesSpec.f k a0 a1 a2 a3 a4 a5 a6) (signatorylaw48_DevicesSpec.f (k + 1) a0 a1 a2 a3 a4 a5 a6) := by
  intro a0 a1 a2 a3 a4 a5 a6 k
  unfold signatorylaw48_DevicesSpec.f
  repeat' first
      | (with_reducible exact signatorylaw48_sane.mono _)
      | (with_reducible exact signatoryref48_Add.mono _ _ _ _ _ _ _ _)
      | (with_reducible exact signatoryref48_Check.mono _ _)
      | (with_reducible exact signatoryref48_Same.mono _ _ _)
      | (with_reducible exact LeO.refl _)
      | (with_reducible exact LeO.none _)
      | (with_reducible refine LeO.ite ?_ ?_)
      | (with_reducible refine LeO.bind ?_ (fun _ => ?_))
      | exact signatorylaw48_sane.mono _
      | exact signatoryref48_Add.mono _ _ _ _ _ _ _ _
      | exact signatoryref48_Check.mono _ _
      | exact signatoryref48_Same.mono _ _ _
      | exact LeO.none _
      | refine LeO.ite ?_ ?_
      | refine LeO.bind ?_ (fun _ => ?_)
set_option maxHeartbeats 8000000 in
set_option maxRecDepth 100000 in
theorem signatorylaw48_DevicesSpec.calls (k : Nat) (A0 : Option Addr) (c0 : Nat) (l0 : List (S65)) (a1_0 : Int) (a1_1 : Int) (a1_2 : Int) (a1_3 : Int) (a1_4 : Int) (a1_5 : Bool) (r : Bool) (w : World) (hLd : Go.Proofs.YtjbcfdgnafmbkaaDoor.Sha.Laid w) (hr0 : Kd.C k65 w A0 l0.length l0) (hc0 : l0.length ≤ c0) (h : signatorylaw48_DevicesSpec.f k l0 a1_0 a1_1 a1_2 a1_3 a1_4 a1_5 = some r) :
    Calls Tryd.prog 10 #[.slice A0 l0.length c0, .agg #[.int .i64 a1_0, .int .i64 a1_1, .int .i64 a1_2, .int .i64 a1_3, .int .i64 a1_4, .bool a1_5]] w fun e w' => e = .returned (.bool r) ∧ Below w.heap.size w w' := by
  have HLd := Aside0.mk hLd
  clear hLd
  have hu65 := Tryd.underlying65
  have HR0 := Aside0.mk hr0
  have HC0 := Aside0.mk hc0
  clear hr0 hc0
  have HB := Aside0.mk (Below.refl w.heap.size w)
  have H : ((signatorylaw48_sane.f k).bind fun t249 => (if t249 = true then ((signatoryref48_Few.f l0).bind fun t250 => (if t250 = true then ((devices_Add.f l0 a1_0 a1_1 a1_2 a1_3 a1_4 a1_5).bind fun bt251 => ((signatoryref48_Add.f k l0 a1_0 a1_1 a1_2 a1_3 a1_4 a1_5).bind fun bt255 => ((devices_Check.f l0).bind fun t259 => ((signatoryref48_Check.f k l0).bind fun t260 => (if t259 = t260 then ((signatoryref48_Same.f k bt251.1 bt255.1).bind fun t261 => (if t261 = true then (some (bt251.2 == bt255.2)) else (some false))) else (some false)))))) else (some true))) else (some false))) = some r := h
  clear h
  replace H := Option.bind_eq_some_iff.mp H
  obtain ⟨t249, A30, H⟩ := H
  replace H : (if t249 = true then ((signatoryref48_Few.f l0).bind fun t250 => (if t250 = true then ((devices_Add.f l0 a1_0 a1_1 a1_2 a1_3 a1_4 a1_5).bind fun bt251 => ((signatoryref48_Add.f k l0 a1_0 a1_1 a1_2 a1_3 a1_4 a1_5).bind fun bt255 => ((devices_Check.f l0).bind fun t259 => ((signatoryref48_Check.f k l0).bind fun t260 => (if t259 = t260 then ((signatoryref48_Same.f k bt251.1 bt255.1).bind fun t261 => (if t261 = true then (some (bt251.2 == bt255.2)) else (some false))) else (some false)))))) else (some true))) else (some false)) = some r := H
  have A3 := Aside0.mk A30
  clear A30
  by_cases c4 : t249 = true
  · subst c4
    have H1 : ((signatoryref48_Few.f l0).bind fun t250 => (if t250 = true then ((devices_Add.f l0 a1_0 a1_1 a1_2 a1_3 a1_4 a1_5).bind fun bt251 => ((signatoryref48_Add.f k l0 a1_0 a1_1 a1_2 a1_3 a1_4 a1_5).bind fun bt255 => ((devices_Check.f l0).bind fun t259 => ((signatoryref48_Check.f k l0).bind fun t260 => (if t259 = t260 then ((signatoryref48_Same.f k bt251.1 bt255.1).bind fun t261 => (if t261 = true then (some (bt251.2 == bt255.2)) else (some false))) else (some false)))))) else (some true))) = some r := by rw [if_pos rfl] at H; exact H
    clear H
    have H := H1
    clear H1
    replace H := Option.bind_eq_some_iff.mp H
    obtain ⟨t250, A50, H⟩ := H
    replace H : (if t250 = true then ((devices_Add.f l0 a1_0 a1_1 a1_2 a1_3 a1_4 a1_5).bind fun bt251 => ((signatoryref48_Add.f k l0 a1_0 a1_1 a1_2 a1_3 a1_4 a1_5).bind fun bt255 => ((devices_Check.f l0).bind fun t259 => ((signatoryref48_Check.f k l0).bind fun t260 => (if t259 = t260 then ((signatoryref48_Same.f k bt251.1 bt255.1).bind fun t261 => (if t261 = true then (some (bt251.2 == bt255.2)) else (some false))) else (some false)))))) else (some true)) = some r := H
    have A5 := Aside0.mk A50
    clear A50
    by_cases c6 : t250 = true
    · subst c6
      have H1 : ((devices_Add.f l0 a1_0 a1_1 a1_2 a1_3 a1_4 a1_5).bind fun bt251 => ((signatoryref48_Add.f k l0 a1_0 a1_1 a1_2 a1_3 a1_4 a1_5).bind fun bt255 => ((devices_Check.f l0).bind fun t259 => ((signatoryref48_Check.f k l0).bind fun t260 => (if t259 = t260 then ((signatoryref48_Same.f k bt251.1 bt255.1).bind fun t261 => (if t261 = true then (some (bt251.2 == bt255.2)) else (some false))) else (some false)))))) = some r := by rw [if_pos rfl] at H; exact H
      clear H
      have H := H1
      clear H1
      replace H := Option.bind_eq_some_iff.mp H
      obtain ⟨⟨t251, t254⟩, A70, H⟩ := H
      replace H : ((signatoryref48_Add.f k l0 a1_0 a1_1 a1_2 a1_3 a1_4 a1_5).bind fun bt255 => ((devices_Check.f l0).bind fun t259 => ((signatoryref48_Check.f k l0).bind fun t260 => (if t259 = t260 then ((signatoryref48_Same.f k t251 bt255.1).bind fun t261 => (if t261 = true then (some (t254 == bt255.2)) else (some false))) else (some false))))) = some r := H
      have A7 := Aside0.mk A70
      clear A70
      replace H := Option.bind_eq_some_iff.mp H
      obtain ⟨⟨t255, t258⟩, A80, H⟩ := H
      replace H : ((devices_Check.f l0).bind fun t259 => ((signatoryref48_Check.f k l0).bind fun t260 => (if t259 = t260 then ((signatoryref48_Same.f k t251 t255).bind fun t261 => (if t261 = true then (some (t254 == t258)) else (some false))) else (some false)))) = some r := H
      have A8 := Aside0.mk A80
      clear A80
      replace H := Option.bind_eq_some_iff.mp H
      obtain ⟨t259, A90, H⟩ := H
      replace H : ((signatoryref48_Check.f k l0).bind fun t260 => (if t259 = t260 then ((signatoryref48_Same.f k t251 t255).bind fun t261 => (if t261 = true then (some (t254 == t258)) else (some false))) else (some false))) = some r := H
      have A9 := Aside0.mk A90
      clear A90
      replace H := Option.bind_eq_some_iff.mp H
      obtain ⟨t260, A100, H⟩ := H
      replace H : (if t259 = t260 then ((signatoryref48_Same.f k t251 t255).bind fun t261 => (if t261 = true then (some (t254 == t258)) else (some false))) else (some false)) = some r := H
      have A10 := Aside0.mk A100
      clear A100
      by_cases c11 : t259 = t260
      · rw [if_pos c11] at H
        have c11b0 : (t259 == t260) = true := beq_iff_eq.mpr c11
        have c11b1 : (t259 != t260) = false := bne_eq_false_iff_eq.mpr c11
        clear c11
        replace H := Option.bind_eq_some_iff.mp H
        obtain ⟨t261, A120, H⟩ := H
        replace H : (if t261 = true then (some (t254 == t258)) else (some false)) = some r := H
        have A12 := Aside0.mk A120
        clear A120
        by_cases c13 : t261 = true
        · subst c13
          have H1 : (some (t254 == t258)) = some r := by rw [if_pos rfl] at H; exact H
          clear H
          have H := H1
          clear H1
          obtain rfl := Option.some.inj H
          go_enter Tryd.func10, Tryd.ntmps10
          go_wp2_with (first | ((with_reducible refine gate_dst (N := 3) rfl ?_); refine box_event ?hg (N := 3) ?hd (cs := #[.int .i64 a1_0, .int .i64 a1_1, .int .i64 a1_2, .int .i64 a1_3, .int .i64 a1_4, .bool a1_5]) (t := 65) ?hr ?_; (case hd => rfl); (case hg => rfl); (case hr => first | (go_simp; done) | (go_simp; rfl)); intro gb248 hg w14 hbox hb; have n0_ := Aside0.mk (below_step (by repeat (first | (with_reducible first | exact HB.out | apply below_alloc | apply pw_below_drewN | apply below_drew1) | exact HB.out)) hb); have n1_ := Aside0.mk (hbox); have n2_ := Aside0.mk ((by rw [hg]; exact (below_size (by repeat (first | (with_reducible first | exact HB.out | apply below_alloc | apply pw_below_drewN | apply below_drew1) | exact HB.out))) : w.heap.size ≤ gb248)); have n3_ := Aside0.mk ((by rw [hg]; exact (below_size (by repeat (first | (with_reducible first | exact HB.out | apply below_alloc | apply pw_below_drewN | apply below_drew1) | exact HB.out))) : w.heap.size ≤ gb248)); clear HB; have HB := n0_; have BK248 := n1_; have GW248 := n2_; have GE248 := n3_; clear n0_ n1_ n2_ n3_; clear hb hbox hg) | ((with_reducible refine gate_callee (f := 40) rfl ?_); refine goesL_ (some 9) rfl rfl Tryd.func40 (by kernel_rfl) rfl #[] rfl (by (try simp only [List.map_toArray, List.map_cons, List.map_nil]); first | done | rfl | (simp only [List.length_drop, List.length_take]; rfl)) ?_; (with_reducible refine (signatorylaw48_sane.calls (hLd := ?sideL) k  true _ A3.out).mono ?_); (case sideL => exact Go.Proofs.YtjbcfdgnafmbkaaDoor.Cod.Laid.below HLd.out (by repeat (first | (with_reducible first | exact HB.out | apply below_alloc | apply pw_below_drewN | apply below_drew1 | refine below_set ?_ GE248.out) | exact HB.out))); rintro e w15 ⟨rfl, hb⟩; refine ⟨_, rfl, ?_⟩; have n0_ := Aside0.mk (blk_below (g := gb248) (o := .cells #[.int .i64 a1_0, .int .i64 a1_1, .int .i64 a1_2, .int .i64 a1_3, .int .i64 a1_4, .bool a1_5] 65 (0, 0)) (by (with_reducible repeat (first | refine blk_drewN ?_ _ | refine blk_drew ?_ | refine blk_alloc ?_ _)); exact BK248.out) hb); have n1_ := Aside0.mk (below_step (by repeat (first | (with_reducible first | exact HB.out | apply below_alloc | apply pw_below_drewN | apply below_drew1 | refine below_set ?_ GE248.out) | exact HB.out)) hb); clear BK248; clear HB; have BK248 := n0_; have HB := n1_; clear n0_ n1_; (try clear hb); (try clear hb2); (try clear hk); (try clear hi)) | ((with_reducible refine gate_callee (f := 41) rfl ?_); refine goesL_ (some 12) rfl rfl Tryd.func41 (by kernel_rfl) rfl #[.slice A0 l0.length c0] rfl (by (try simp only [List.map_toArray, List.map_cons, List.map_nil]); first | done | rfl | (simp only [List.length_drop, List.length_take]; rfl)) ?_; (with_reducible refine (signatoryref48_Few.calls _ _ l0 true _ ?side1 ?side2 A5.out).mono ?_); (case side1 => repeat (first | exact (Kd.C_below HR0.out HB.out) | (with_reducible refine Kd.C_alloc ?_ _) | (with_reducible refine Kd.C_drewN ?_ _) | (with_reducible refine Kd.C_drew ?_))); (case side2 => exact HC0.out); rintro e w' ⟨rfl, ⟨nd, rfl⟩⟩; refine ⟨_, rfl, ?_⟩; have hcz16_0 : w15.cell? ⟨gb248, 0, none⟩ = some (.int .i64 a1_0) := (blk_cell BK248.out 0).trans rfl; have hcz16_1 : w15.cell? ⟨gb248, 1, none⟩ = some (.int .i64 a1_1) := (blk_cell BK248.out 1).trans rfl; have hcz16_2 : w15.cell? ⟨gb248, 2, none⟩ = some (.int .i64 a1_2) := (blk_cell BK248.out 2).trans rfl; have hcz16_3 : w15.cell? ⟨gb248, 3, none⟩ = some (.int .i64 a1_3) := (blk_cell BK248.out 3).trans rfl; have hcz16_4 : w15.cell? ⟨gb248, 4, none⟩ = some (.int .i64 a1_4) := (blk_cell BK248.out 4).trans rfl; have hcz16_5 : w15.cell? ⟨gb248, 5, none⟩ = some (.bool a1_5) := (blk_cell BK248.out 5).trans rfl; have hfz16_0 := blk_frozen BK248.out 0; have hfz16_1 := blk_frozen BK248.out 1; have hfz16_2 := blk_frozen BK248.out 2; have hfz16_3 := blk_frozen BK248.out 3; have hfz16_4 := blk_frozen BK248.out 4; have hfz16_5 := blk_frozen BK248.out 5) | ((with_reducible refine gate_callee (f := 42) rfl ?_); refine goesL_ (some 17) rfl rfl Tryd.func42 (by kernel_rfl) rfl #[.slice A0 l0.length c0, .agg #[.int .i64 a1_0, .int .i64 a1_1, .int .i64 a1_2, .int .i64 a1_3, .int .i64 a1_4, .bool a1_5]] rfl (by (try simp only [List.map_toArray, List.map_cons, List.map_nil]); first | done | rfl | (simp only [List.length_drop, List.length_take]; rfl)) ?_; (with_reducible refine (devices_Add.calls _ _ l0 a1_0 a1_1 a1_2 a1_3 a1_4 a1_5 t251 t254 _ ?side1 ?side2 A7.out).mono ?_); (case side1 => repeat (first | exact (Kd.C_below HR0.out (by repeat (first | (with_reducible first | exact HB.out | apply below_alloc | apply pw_below_drewN | apply below_drew1 | refine below_set ?_ GE248.out) | exact HB.out))) | (with_reducible refine Kd.C_alloc ?_ _) | (with_reducible refine Kd.C_drewN ?_ _) | (with_reducible refine Kd.C_drew ?_))); (case side2 => exact HC0.out); rintro e w17 ⟨v252, rfl, ho0, hb⟩; refine ⟨_, rfl, ?_⟩; have n0_ := Aside0.mk (Kd.R_lower (Kd.R_newB ho0 (g := gb248) (o := .cells #[.int .i64 a1_0, .int .i64 a1_1, .int .i64 a1_2, .int .i64 a1_3, .int .i64 a1_4, .bool a1_5] 65 (0, 0)) (by (with_reducible repeat (first | refine blk_drewN ?_ _ | refine blk_drew ?_ | refine blk_alloc ?_ _)); exact BK248.out)) (below_size (by repeat (first | (with_reducible first | exact HB.out | apply below_alloc | apply pw_below_drewN | apply below_drew1 | refine below_set ?_ GE248.out) | exact HB.out)))); have n1_ := Aside0.mk (blk_below (g := gb248) (o := .cells #[.int .i64 a1_0, .int .i64 a1_1, .int .i64 a1_2, .int .i64 a1_3, .int .i64 a1_4, .bool a1_5] 65 (0, 0)) (by (with_reducible repeat (first | refine blk_drewN ?_ _ | refine blk_drew ?_ | refine blk_alloc ?_ _)); exact BK248.out) hb); have n2_ := Aside0.mk (below_step (by repeat (first | (with_reducible first | exact HB.out | apply below_alloc | apply pw_below_drewN | apply below_drew1 | refine below_set ?_ GE248.out) | exact HB.out)) hb); clear BK248; clear HB; have HO253 := n0_; have BK248 := n1_; have HB := n2_; clear n0_ n1_ n2_; (try clear hb); (try clear hb2); (try clear hk); (try clear hi); (try clear ho0); have hcz18_0 : w17.cell? ⟨gb248, 0, none⟩ = some (.int .i64 a1_0) := (blk_cell BK248.out 0).trans rfl; have hcz18_1 : w17.cell? ⟨gb248, 1, none⟩ = some (.int .i64 a1_1) := (blk_cell BK248.out 1).trans rfl; have hcz18_2 : w17.cell? ⟨gb248, 2, none⟩ = some (.int .i64 a1_2) := (blk_cell BK248.out 2).trans rfl; have hcz18_3 : w17.cell? ⟨gb248, 3, none⟩ = some (.int .i64 a1_3) := (blk_cell BK248.out 3).trans rfl; have hcz18_4 : w17.cell? ⟨gb248, 4, none⟩ = some (.int .i64 a1_4) := (blk_cell BK248.out 4).trans rfl; have hcz18_5 : w17.cell? ⟨gb248, 5, none⟩ = some (.bool a1_5) := (blk_cell BK248.out 5).trans rfl; have hfz18_0 := blk_frozen BK248.out 0; have hfz18_1 := blk_frozen BK248.out 1; have hfz18_2 := blk_frozen BK248.out 2; have hfz18_3 := blk_frozen BK248.out 3; have hfz18_4 := blk_frozen BK248.out 4; have hfz18_5 := blk_frozen BK248.out 5) | ((with_reducible refine gate_callee (f := 43) rfl ?_); refine goesL_ (some 23) rfl rfl Tryd.func43 (by kernel_rfl) rfl #[.slice A0 l0.length c0, .agg #[.int .i64 a1_0, .int .i64 a1_1, .int .i64 a1_2, .int .i64 a1_3, .int .i64 a1_4, .bool a1_5]] rfl (by (try simp only [List.map_toArray, List.map_cons, List.map_nil]); first | done | rfl | (simp only [List.length_drop, List.length_take]; rfl)) ?_; (with_reducible refine (signatoryref48_Add.calls k _ _ l0 a1_0 a1_1 a1_2 a1_3 a1_4 a1_5 t255 t258 _ ?side1 ?side2 A8.out).mono ?_); (case side1 => repeat (first | exact (Kd.C_below HR0.out HB.out) | (with_reducible refine Kd.C_alloc ?_ _) | (with_reducible refine Kd.C_drewN ?_ _) | (with_reducible refine Kd.C_drew ?_))); (case side2 => exact HC0.out); rintro e w19 ⟨v256, rfl, ho0, hb⟩; refine ⟨_, rfl, ?_⟩; have n0_ := Aside0.mk (Kd.R_elder' (by (with_reducible repeat (first | apply Kd.R_alloc | apply Kd.R_drewN | apply Kd.R_drew)); exact HO253.out) (Kd.R_base ho0) hb); have n1_ := Aside0.mk (Kd.R_lower (Kd.R_newB (Kd.R_new' ho0 (Kd.R_lt (by (with_reducible repeat (first | apply Kd.R_alloc | apply Kd.R_drewN | apply Kd.R_drew)); exact HO253.out))) (g := gb248) (o := .cells #[.int .i64 a1_0, .int .i64 a1_1, .int .i64 a1_2, .int .i64 a1_3, .int .i64 a1_4, .bool a1_5] 65 (0, 0)) (by (with_reducible repeat (first | refine blk_drewN ?_ _ | refine blk_drew ?_ | refine blk_alloc ?_ _)); exact BK248.out)) (below_size (by repeat (first | (with_reducible first | exact HB.out | apply below_alloc | apply pw_below_drewN | apply below_drew1 | refine below_set ?_ GE248.out) | exact HB.out)))); have n2_ := Aside0.mk (blk_below (g := gb248) (o := .cells #[.int .i64 a1_0, .int .i64 a1_1, .int .i64 a1_2, .int .i64 a1_3, .int .i64 a1_4, .bool a1_5] 65 (0, 0)) (by (with_reducible repeat (first | refine blk_drewN ?_ _ | refine blk_drew ?_ | refine blk_alloc ?_ _)); exact BK248.out) hb); have n3_ := Aside0.mk (below_step (by repeat (first | (with_reducible first | exact HB.out | apply below_alloc | apply pw_below_drewN | apply below_drew1 | refine below_set ?_ GE248.out) | exact HB.out)) hb); clear HO253; clear BK248; clear HB; have HO253 := n0_; have HO257 := n1_; have BK248 := n2_; have HB := n3_; clear n0_ n1_ n2_ n3_; (try clear hb); (try clear hb2); (try clear hk); (try clear hi); (try clear ho0)) | ((with_reducible refine gate_callee (f := 44) rfl ?_); refine goesL_ (some 27) rfl rfl Tryd.func44 (by kernel_rfl) rfl #[.slice A0 l0.length c0] rfl (by (try simp only [List.map_toArray, List.map_cons, List.map_nil]); first | done | rfl | (simp only [List.length_drop, List.length_take]; rfl)) ?_; (with_reducible refine (devices_Check.calls _ _ l0 t259 _ ?side1 ?side2 A9.out).mono ?_); (case side1 => repeat (first | exact (Kd.C_below HR0.out HB.out) | (with_reducible refine Kd.C_alloc ?_ _) | (with_reducible refine Kd.C_drewN ?_ _) | (with_reducible refine Kd.C_drew ?_))); (case side2 => exact HC0.out); rintro e w20 ⟨rfl, hb⟩; refine ⟨_, rfl, ?_⟩; have n0_ := Aside0.mk (Kd.R_below (by (with_reducible repeat (first | apply Kd.R_alloc | apply Kd.R_drewN | apply Kd.R_drew)); exact HO253.out) hb); have n1_ := Aside0.mk (Kd.R_below (by (with_reducible repeat (first | apply Kd.R_alloc | apply Kd.R_drewN | apply Kd.R_drew)); exact HO257.out) hb); have n2_ := Aside0.mk (blk_below (g := gb248) (o := .cells #[.int .i64 a1_0, .int .i64 a1_1, .int .i64 a1_2, .int .i64 a1_3, .int .i64 a1_4, .bool a1_5] 65 (0, 0)) (by (with_reducible repeat (first | refine blk_drewN ?_ _ | refine blk_drew ?_ | refine blk_alloc ?_ _)); exact BK248.out) hb); have n3_ := Aside0.mk (below_step (by repeat (first | (with_reducible first | exact HB.out | apply below_alloc | apply pw_below_drewN | apply below_drew1 | refine below_set ?_ GE248.out) | exact HB.out)) hb); clear HO253; clear HO257; clear BK248; clear HB; have HO253 := n0_; have HO257 := n1_; have BK248 := n2_; have HB := n3_; clear n0_ n1_ n2_ n3_; (try clear hb); (try clear hb2); (try clear hk); (try clear hi)) | ((with_reducible refine gate_callee (f := 45) rfl ?_); refine goesL_ (some 29) rfl rfl Tryd.func45 (by kernel_rfl) rfl #[.slice A0 l0.length c0] rfl (by (try simp only [List.map_toArray, List.map_cons, List.map_nil]); first | done | rfl | (simp only [List.length_drop, List.length_take]; rfl)) ?_; (with_reducible refine (signatoryref48_Check.calls k _ _ l0 t260 _ ?side1 ?side2 A10.out).mono ?_); (case side1 => repeat (first | exact (Kd.C_below HR0.out HB.out) | (with_reducible refine Kd.C_alloc ?_ _) | (with_reducible refine Kd.C_drewN ?_ _) | (with_reducible refine Kd.C_drew ?_))); (case side2 => exact HC0.out); rintro e w21 ⟨rfl, hb⟩; refine ⟨_, rfl, ?_⟩; have n0_ := Aside0.mk (Kd.R_below (by (with_reducible repeat (first | apply Kd.R_alloc | apply Kd.R_drewN | apply Kd.R_drew)); exact HO253.out) hb); have n1_ := Aside0.mk (Kd.R_below (by (with_reducible repeat (first | apply Kd.R_alloc | apply Kd.R_drewN | apply Kd.R_drew)); exact HO257.out) hb); have n2_ := Aside0.mk (blk_below (g := gb248) (o := .cells #[.int .i64 a1_0, .int .i64 a1_1, .int .i64 a1_2, .int .i64 a1_3, .int .i64 a1_4, .bool a1_5] 65 (0, 0)) (by (with_reducible repeat (first | refine blk_drewN ?_ _ | refine blk_drew ?_ | refine blk_alloc ?_ _)); exact BK248.out) hb); have n3_ := Aside0.mk (below_step (by repeat (first | (with_reducible first | exact HB.out | apply below_alloc | apply pw_below_drewN | apply below_drew1 | refine below_set ?_ GE248.out) | exact HB.out)) hb); clear HO253; clear HO257; clear BK248; clear HB; have HO253 := n0_; have HO257 := n1_; have BK248 := n2_; have HB := n3_; clear n0_ n1_ n2_ n3_; (try clear hb); (try clear hb2); (try clear hk); (try clear hi); obtain ⟨Ao22, co22, eo22⟩ := Kd.R_slice HO253.out; subst eo22; obtain ⟨Ao23, co23, eo23⟩ := Kd.R_slice HO257.out; subst eo23) | (go_at_call 46; (with_reducible refine (signatoryref48_Same.calls k _ _ t251 _ _ t255 true _ ?side1 ?side2 ?side3 ?side4 A12.out).mono ?_); (case side1 => repeat (first | exact (Kd.R_reads' HO253.out).2.2 | (with_reducible refine Kd.C_alloc ?_ _) | (with_reducible refine Kd.C_drewN ?_ _) | (with_reducible refine Kd.C_drew ?_))); (case side2 => exact (Kd.R_reads' HO253.out).2.1); (case side3 => repeat (first | exact (Kd.R_reads' HO257.out).2.2 | (with_reducible refine Kd.C_alloc ?_ _) | (with_reducible refine Kd.C_drewN ?_ _) | (with_reducible refine Kd.C_drew ?_))); (case side4 => exact (Kd.R_reads' HO257.out).2.1); rintro e w' ⟨rfl, ⟨nd, rfl⟩⟩))
          go_ret
          exact ⟨by first | rfl | (simp [errW_none, errW_some] <;> rfl) | (simp [*, errW_none, errW_some] <;> rfl), by repeat (first | (with_reducible first | exact HB.out | apply below_alloc | apply pw_below_drewN | apply below_drew1 | refine below_set ?_ GE248.out) | exact HB.out)⟩
        · replace c13 := Bool.eq_false_iff.mpr c13
          subst c13
          have H1 : (some false) = some r := by rw [if_neg (show ¬ (false = true) by decide)] at H; exact H
          clear H
          have H := H1
          clear H1
          obtain rfl := Option.some.inj H
          go_enter Tryd.func10, Tryd.ntmps10
          go_wp2_with (first | ((with_reducible refine gate_dst (N := 3) rfl ?_); refine box_event ?hg (N := 3) ?hd (cs := #[.int .i64 a1_0, .int .i64 a1_1, .int .i64 a1_2, .int .i64 a1_3, .int .i64 a1_4, .bool a1_5]) (t := 65) ?hr ?_; (case hd => rfl); (case hg => rfl); (case hr => first | (go_simp; done) | (go_simp; rfl)); intro gb248 hg w24 hbox hb; have n0_ := Aside0.mk (below_step (by repeat (first | (with_reducible first | exact HB.out | apply below_alloc | apply pw_below_drewN | apply below_drew1) | exact HB.out)) hb); have n1_ := Aside0.mk (hbox); have n2_ := Aside0.mk ((by rw [hg]; exact (below_size (by repeat (first | (with_reducible first | exact HB.out | apply below_alloc | apply pw_below_drewN | apply below_drew1) | exact HB.out))) : w.heap.size ≤ gb248)); have n3_ := Aside0.mk ((by rw [hg]; exact (below_size (by repeat (first | (with_reducible first | exact HB.out | apply below_alloc | apply pw_below_drewN | apply below_drew1) | exact HB.out))) : w.heap.size ≤ gb248)); clear HB; have HB := n0_; have BK248 := n1_; have GW248 := n2_; have GE248 := n3_; clear n0_ n1_ n2_ n3_; clear hb hbox hg) | ((with_reducible refine gate_callee (f := 40) rfl ?_); refine goesL_ (some 9) rfl rfl Tryd.func40 (by kernel_rfl) rfl #[] rfl (by (try simp only [List.map_toArray, List.map_cons, List.map_nil]); first | done | rfl | (simp only [List.length_drop, List.length_take]; rfl)) ?_; (with_reducible refine (signatorylaw48_sane.calls (hLd := ?sideL) k  true _ A3.out).mono ?_); (case sideL => exact Go.Proofs.YtjbcfdgnafmbkaaDoor.Cod.Laid.below HLd.out (by repeat (first | (with_reducible first | exact HB.out | apply below_alloc | apply pw_below_drewN | apply below_drew1 | refine below_set ?_ GE248.out) | exact HB.out))); rintro e w25 ⟨rfl, hb⟩; refine ⟨_, rfl, ?_⟩; have n0_ := Aside0.mk (blk_below (g := gb248) (o := .cells #[.int .i64 a1_0, .int .i64 a1_1, .int .i64 a1_2, .int .i64 a1_3, .int .i64 a1_4, .bool a1_5] 65 (0, 0)) (by (with_reducible repeat (first | refine blk_drewN ?_ _ | refine blk_drew ?_ | refine blk_alloc ?_ _)); exact BK248.out) hb); have n1_ := Aside0.mk (below_step (by repeat (first | (with_reducible first | exact HB.out | apply below_alloc | apply pw_below_drewN | apply below_drew1 | refine below_set ?_ GE248.out) | exact HB.out)) hb); clear BK248; clear HB; have BK248 := n0_; have HB := n1_; clear n0_ n1_; (try clear hb); (try clear hb2); (try clear hk); (try clear hi)) | ((with_reducible refine gate_callee (f := 41) rfl ?_); refine goesL_ (some 12) rfl rfl Tryd.func41 (by kernel_rfl) rfl #[.slice A0 l0.length c0] rfl (by (try simp only [List.map_toArray, List.map_cons, List.map_nil]); first | done | rfl | (simp only [List.length_drop, List.length_take]; rfl)) ?_; (with_reducible refine (signatoryref48_Few.calls _ _ l0 true _ ?side1 ?side2 A5.out).mono ?_); (case side1 => repeat (first | exact (Kd.C_below HR0.out HB.out) | (with_reducible refine Kd.C_alloc ?_ _) | (with_reducible refine Kd.C_drewN ?_ _) | (with_reducible refine Kd.C_drew ?_))); (case side2 => exact HC0.out); rintro e w' ⟨rfl, ⟨nd, rfl⟩⟩; refine ⟨_, rfl, ?_⟩; have hcz26_0 : w25.cell? ⟨gb248, 0, none⟩ = some (.int .i64 a1_0) := (blk_cell BK248.out 0).trans rfl; have hcz26_1 : w25.cell? ⟨gb248, 1, none⟩ = some (.int .i64 a1_1) := (blk_cell BK248.out 1).trans rfl; have hcz26_2 : w25.cell? ⟨gb248, 2, none⟩ = some (.int .i64 a1_2) := (blk_cell BK248.out 2).trans rfl; have hcz26_3 : w25.cell? ⟨gb248, 3, none⟩ = some (.int .i64 a1_3) := (blk_cell BK248.out 3).trans rfl; have hcz26_4 : w25.cell? ⟨gb248, 4, none⟩ = some (.int .i64 a1_4) := (blk_cell BK248.out 4).trans rfl; have hcz26_5 : w25.cell? ⟨gb248, 5, none⟩ = some (.bool a1_5) := (blk_cell BK248.out 5).trans rfl; have hfz26_0 := blk_frozen BK248.out 0; have hfz26_1 := blk_frozen BK248.out 1; have hfz26_2 := blk_frozen BK248.out 2; have hfz26_3 := blk_frozen BK248.out 3; have hfz26_4 := blk_frozen BK248.out 4; have hfz26_5 := blk_frozen BK248.out 5) | ((with_reducible refine gate_callee (f := 42) rfl ?_); refine goesL_ (some 17) rfl rfl Tryd.func42 (by kernel_rfl) rfl #[.slice A0 l0.length c0, .agg #[.int .i64 a1_0, .int .i64 a1_1, .int .i64 a1_2, .int .i64 a1_3, .int .i64 a1_4, .bool a1_5]] rfl (by (try simp only [List.map_toArray, List.map_cons, List.map_nil]); first | done | rfl | (simp only [List.length_drop, List.length_take]; rfl)) ?_; (with_reducible refine (devices_Add.calls _ _ l0 a1_0 a1_1 a1_2 a1_3 a1_4 a1_5 t251 t254 _ ?side1 ?side2 A7.out).mono ?_); (case side1 => repeat (first | exact (Kd.C_below HR0.out (by repeat (first | (with_reducible first | exact HB.out | apply below_alloc | apply pw_below_drewN | apply below_drew1 | refine below_set ?_ GE248.out) | exact HB.out))) | (with_reducible refine Kd.C_alloc ?_ _) | (with_reducible refine Kd.C_drewN ?_ _) | (with_reducible refine Kd.C_drew ?_))); (case side2 => exact HC0.out); rintro e w27 ⟨v252, rfl, ho0, hb⟩; refine ⟨_, rfl, ?_⟩; have n0_ := Aside0.mk (Kd.R_lower (Kd.R_newB ho0 (g := gb248) (o := .cells #[.int .i64 a1_0, .int .i64 a1_1, .int .i64 a1_2, .int .i64 a1_3, .int .i64 a1_4, .bool a1_5] 65 (0, 0)) (by (with_reducible repeat (first | refine blk_drewN ?_ _ | refine blk_drew ?_ | refine blk_alloc ?_ _)); exact BK248.out)) (below_size (by repeat (first | (with_reducible first | exact HB.out | apply below_alloc | apply pw_below_drewN | apply below_drew1 | refine below_set ?_ GE248.out) | exact HB.out)))); have n1_ := Aside0.mk (blk_below (g := gb248) (o := .cells #[.int .i64 a1_0, .int .i64 a1_1, .int .i64 a1_2, .int .i64 a1_3, .int .i64 a1_4, .bool a1_5] 65 (0, 0)) (by (with_reducible repeat (first | refine blk_drewN ?_ _ | refine blk_drew ?_ | refine blk_alloc ?_ _)); exact BK248.out) hb); have n2_ := Aside0.mk (below_step (by repeat (first | (with_reducible first | exact HB.out | apply below_alloc | apply pw_below_drewN | apply below_drew1 | refine below_set ?_ GE248.out) | exact HB.out)) hb); clear BK248; clear HB; have HO253 := n0_; have BK248 := n1_; have HB := n2_; clear n0_ n1_ n2_; (try clear hb); (try clear hb2); (try clear hk); (try clear hi); (try clear ho0); have hcz28_0 : w27.cell? ⟨gb248, 0, none⟩ = some (.int .i64 a1_0) := (blk_cell BK248.out 0).trans rfl; have hcz28_1 : w27.cell? ⟨gb248, 1, none⟩ = some (.int .i64 a1_1) := (blk_cell BK248.out 1).trans rfl; have hcz28_2 : w27.cell? ⟨gb248, 2, none⟩ = some (.int .i64 a1_2) := (blk_cell BK248.out 2).trans rfl; have hcz28_3 : w27.cell? ⟨gb248, 3, none⟩ = some (.int .i64 a1_3) := (blk_cell BK248.out 3).trans rfl; have hcz28_4 : w27.cell? ⟨gb248, 4, none⟩ = some (.int .i64 a1_4) := (blk_cell BK248.out 4).trans rfl; have hcz28_5 : w27.cell? ⟨gb248, 5, none⟩ = some (.bool a1_5) := (blk_cell BK248.out 5).trans rfl; have hfz28_0 := blk_frozen BK248.out 0; have hfz28_1 := blk_frozen BK248.out 1; have hfz28_2 := blk_frozen BK248.out 2; have hfz28_3 := blk_frozen BK248.out 3; have hfz28_4 := blk_frozen BK248.out 4; have hfz28_5 := blk_frozen BK248.out 5) | ((with_reducible refine gate_callee (f := 43) rfl ?_); refine goesL_ (some 23) rfl rfl Tryd.func43 (by kernel_rfl) rfl #[.slice A0 l0.length c0, .agg #[.int .i64 a1_0, .int .i64 a1_1, .int .i64 a1_2, .int .i64 a1_3, .int .i64 a1_4, .bool a1_5]] rfl (by (try simp only [List.map_toArray, List.map_cons, List.map_nil]); first | done | rfl | (simp only [List.length_drop, List.length_take]; rfl)) ?_; (with_reducible refine (signatoryref48_Add.calls k _ _ l0 a1_0 a1_1 a1_2 a1_3 a1_4 a1_5 t255 t258 _ ?side1 ?side2 A8.out).mono ?_); (case side1 => repeat (first | exact (Kd.C_below HR0.out HB.out) | (with_reducible refine Kd.C_alloc ?_ _) | (with_reducible refine Kd.C_drewN ?_ _) | (with_reducible refine Kd.C_drew ?_))); (case side2 => exact HC0.out); rintro e w29 ⟨v256, rfl, ho0, hb⟩; refine ⟨_, rfl, ?_⟩; have n0_ := Aside0.mk (Kd.R_elder' (by (with_reducible repeat (first | apply Kd.R_alloc | apply Kd.R_drewN | apply Kd.R_drew)); exact HO253.out) (Kd.R_base ho0) hb); have n1_ := Aside0.mk (Kd.R_lower (Kd.R_newB (Kd.R_new' ho0 (Kd.R_lt (by (with_reducible repeat (first | apply Kd.R_alloc | apply Kd.R_drewN | apply Kd.R_drew)); exact HO253.out))) (g := gb248) (o := .cells #[.int .i64 a1_0, .int .i64 a1_1, .int .i64 a1_2, .int .i64 a1_3, .int .i64 a1_4, .bool a1_5] 65 (0, 0)) (by (with_reducible repeat (first | refine blk_drewN ?_ _ | refine blk_drew ?_ | refine blk_alloc ?_ _)); exact BK248.out)) (below_size (by repeat (first | (with_reducible first | exact HB.out | apply below_alloc | apply pw_below_drewN | apply below_drew1 | refine below_set ?_ GE248.out) | exact HB.out)))); have n2_ := Aside0.mk (blk_below (g := gb248) (o := .cells #[.int .i64 a1_0, .int .i64 a1_1, .int .i64 a1_2, .int .i64 a1_3, .int .i64 a1_4, .bool a1_5] 65 (0, 0)) (by (with_reducible repeat (first | refine blk_drewN ?_ _ | refine blk_drew ?_ | refine blk_alloc ?_ _)); exact BK248.out) hb); have n3_ := Aside0.mk (below_step (by repeat (first | (with_reducible first | exact HB.out | apply below_alloc | apply pw_below_drewN | apply below_drew1 | refine below_set ?_ GE248.out) | exact HB.out)) hb); clear HO253; clear BK248; clear HB; have HO253 := n0_; have HO257 := n1_; have BK248 := n2_; have HB := n3_; clear n0_ n1_ n2_ n3_; (try clear hb); (try clear hb2); (try clear hk); (try clear hi); (try clear ho0)) | ((with_reducible refine gate_callee (f := 44) rfl ?_); refine goesL_ (some 27) rfl rfl Tryd.func44 (by kernel_rfl) rfl #[.slice A0 l0.length c0] rfl (by (try simp only [List.map_toArray, List.map_cons, List.map_nil]); first | done | rfl | (simp only [List.length_drop, List.length_take]; rfl)) ?_; (with_reducible refine (devices_Check.calls _ _ l0 t259 _ ?side1 ?side2 A9.out).mono ?_); (case side1 => repeat (first | exact (Kd.C_below HR0.out HB.out) | (with_reducible refine Kd.C_alloc ?_ _) | (with_reducible refine Kd.C_drewN ?_ _) | (with_reducible refine Kd.C_drew ?_))); (case side2 => exact HC0.out); rintro e w30 ⟨rfl, hb⟩; refine ⟨_, rfl, ?_⟩; have n0_ := Aside0.mk (Kd.R_below (by (with_reducible repeat (first | apply Kd.R_alloc | apply Kd.R_drewN | apply Kd.R_drew)); exact HO253.out) hb); have n1_ := Aside0.mk (Kd.R_below (by (with_reducible repeat (first | apply Kd.R_alloc | apply Kd.R_drewN | apply Kd.R_drew)); exact HO257.out) hb); have n2_ := Aside0.mk (blk_below (g := gb248) (o := .cells #[.int .i64 a1_0, .int .i64 a1_1, .int .i64 a1_2, .int .i64 a1_3, .int .i64 a1_4, .bool a1_5] 65 (0, 0)) (by (with_reducible repeat (first | refine blk_drewN ?_ _ | refine blk_drew ?_ | refine blk_alloc ?_ _)); exact BK248.out) hb); have n3_ := Aside0.mk (below_step (by repeat (first | (with_reducible first | exact HB.out | apply below_alloc | apply pw_below_drewN | apply below_drew1 | refine below_set ?_ GE248.out) | exact HB.out)) hb); clear HO253; clear HO257; clear BK248; clear HB; have HO253 := n0_; have HO257 := n1_; have BK248 := n2_; have HB := n3_; clear n0_ n1_ n2_ n3_; (try clear hb); (try clear hb2); (try clear hk); (try clear hi)) | ((with_reducible refine gate_callee (f := 45) rfl ?_); refine goesL_ (some 29) rfl rfl Tryd.func45 (by kernel_rfl) rfl #[.slice A0 l0.length c0] rfl (by (try simp only [List.map_toArray, List.map_cons, List.map_nil]); first | done | rfl | (simp only [List.length_drop, List.length_take]; rfl)) ?_; (with_reducible refine (signatoryref48_Check.calls k _ _ l0 t260 _ ?side1 ?side2 A10.out).mono ?_); (case side1 => repeat (first | exact (Kd.C_below HR0.out HB.out) | (with_reducible refine Kd.C_alloc ?_ _) | (with_reducible refine Kd.C_drewN ?_ _) | (with_reducible refine Kd.C_drew ?_))); (case side2 => exact HC0.out); rintro e w31 ⟨rfl, hb⟩; refine ⟨_, rfl, ?_⟩; have n0_ := Aside0.mk (Kd.R_below (by (with_reducible repeat (first | apply Kd.R_alloc | apply Kd.R_drewN | apply Kd.R_drew)); exact HO253.out) hb); have n1_ := Aside0.mk (Kd.R_below (by (with_reducible repeat (first | apply Kd.R_alloc | apply Kd.R_drewN | apply Kd.R_drew)); exact HO257.out) hb); have n2_ := Aside0.mk (blk_below (g := gb248) (o := .cells #[.int .i64 a1_0, .int .i64 a1_1, .int .i64 a1_2, .int .i64 a1_3, .int .i64 a1_4, .bool a1_5] 65 (0, 0)) (by (with_reducible repeat (first | refine blk_drewN ?_ _ | refine blk_drew ?_ | refine blk_alloc ?_ _)); exact BK248.out) hb); have n3_ := Aside0.mk (below_step (by repeat (first | (with_reducible first | exact HB.out | apply below_alloc | apply pw_below_drewN | apply below_drew1 | refine below_set ?_ GE248.out) | exact HB.out)) hb); clear HO253; clear HO257; clear BK248; clear HB; have HO253 := n0_; have HO257 := n1_; have BK248 := n2_; have HB := n3_; clear n0_ n1_ n2_ n3_; (try clear hb); (try clear hb2); (try clear hk); (try clear hi); obtain ⟨Ao32, co32, eo32⟩ := Kd.R_slice HO253.out; subst eo32; obtain ⟨Ao33, co33, eo33⟩ := Kd.R_slice HO257.out; subst eo33) | (go_at_call 46; (with_reducible refine (signatoryref48_Same.calls k _ _ t251 _ _ t255 false _ ?side1 ?side2 ?side3 ?side4 A12.out).mono ?_); (case side1 => repeat (first | exact (Kd.R_reads' HO253.out).2.2 | (with_reducible refine Kd.C_alloc ?_ _) | (with_reducible refine Kd.C_drewN ?_ _) | (with_reducible refine Kd.C_drew ?_))); (case side2 => exact (Kd.R_reads' HO253.out).2.1); (case side3 => repeat (first | exact (Kd.R_reads' HO257.out).2.2 | (with_reducible refine Kd.C_alloc ?_ _) | (with_reducible refine Kd.C_drewN ?_ _) | (with_reducible refine Kd.C_drew ?_))); (case side4 => exact (Kd.R_reads' HO257.out).2.1); rintro e w' ⟨rfl, ⟨nd, rfl⟩⟩))
          go_ret
          exact ⟨by first | rfl | (simp [errW_none, errW_some] <;> rfl) | (simp [*, errW_none, errW_some] <;> rfl), by repeat (first | (with_reducible first | exact HB.out | apply below_alloc | apply pw_below_drewN | apply below_drew1 | refine below_set ?_ GE248.out) | exact HB.out)⟩
      · rw [if_neg c11] at H
        have c11b0 : (t259 == t260) = false := beq_eq_false_iff_ne.mpr c11
        have c11b1 : (t259 != t260) = true := bne_iff_ne.mpr c11
        obtain rfl := Option.some.inj H
        go_enter Tryd.func10, Tryd.ntmps10
        go_wp2_with (first | ((with_reducible refine gate_dst (N := 3) rfl ?_); refine box_event ?hg (N := 3) ?hd (cs := #[.int .i64 a1_0, .int .i64 a1_1, .int .i64 a1_2, .int .i64 a1_3, .int .i64 a1_4, .bool a1_5]) (t := 65) ?hr ?_; (case hd => rfl); (case hg => rfl); (case hr => first | (go_simp; done) | (go_simp; rfl)); intro gb248 hg w34 hbox hb; have n0_ := Aside0.mk (below_step (by repeat (first | (with_reducible first | exact HB.out | apply below_alloc | apply pw_below_drewN | apply below_drew1) | exact HB.out)) hb); have n1_ := Aside0.mk (hbox); have n2_ := Aside0.mk ((by rw [hg]; exact (below_size (by repeat (first | (with_reducible first | exact HB.out | apply below_alloc | apply pw_below_drewN | apply below_drew1) | exact HB.out))) : w.heap.size ≤ gb248)); have n3_ := Aside0.mk ((by rw [hg]; exact (below_size (by repeat (first | (with_reducible first | exact HB.out | apply below_alloc | apply pw_below_drewN | apply below_drew1) | exact HB.out))) : w.heap.size ≤ gb248)); clear HB; have HB := n0_; have BK248 := n1_; have GW248 := n2_; have GE248 := n3_; clear n0_ n1_ n2_ n3_; clear hb hbox hg) | ((with_reducible refine gate_callee (f := 40) rfl ?_); refine goesL_ (some 9) rfl rfl Tryd.func40 (by kernel_rfl) rfl #[] rfl (by (try simp only [List.map_toArray, List.map_cons, List.map_nil]); first | done | rfl | (simp only [List.length_drop, List.length_take]; rfl)) ?_; (with_reducible refine (signatorylaw48_sane.calls (hLd := ?sideL) k  true _ A3.out).mono ?_); (case sideL => exact Go.Proofs.YtjbcfdgnafmbkaaDoor.Cod.Laid.below HLd.out (by repeat (first | (with_reducible first | exact HB.out | apply below_alloc | apply pw_below_drewN | apply below_drew1 | refine below_set ?_ GE248.out) | exact HB.out))); rintro e w35 ⟨rfl, hb⟩; refine ⟨_, rfl, ?_⟩; have n0_ := Aside0.mk (blk_below (g := gb248) (o := .cells #[.int .i64 a1_0, .int .i64 a1_1, .int .i64 a1_2, .int .i64 a1_3, .int .i64 a1_4, .bool a1_5] 65 (0, 0)) (by (with_reducible repeat (first | refine blk_drewN ?_ _ | refine blk_drew ?_ | refine blk_alloc ?_ _)); exact BK248.out) hb); have n1_ := Aside0.mk (below_step (by repeat (first | (with_reducible first | exact HB.out | apply below_alloc | apply pw_below_drewN | apply below_drew1 | refine below_set ?_ GE248.out) | exact HB.out)) hb); clear BK248; clear HB; have BK248 := n0_; have HB := n1_; clear n0_ n1_; (try clear hb); (try clear hb2); (try clear hk); (try clear hi)) | ((with_reducible refine gate_callee (f := 41) rfl ?_); refine goesL_ (some 12) rfl rfl Tryd.func41 (by kernel_rfl) rfl #[.slice A0 l0.length c0] rfl (by (try simp only [List.map_toArray, List.map_cons, List.map_nil]); first | done | rfl | (simp only [List.length_drop, List.length_take]; rfl)) ?_; (with_reducible refine (signatoryref48_Few.calls _ _ l0 true _ ?side1 ?side2 A5.out).mono ?_); (case side1 => repeat (first | exact (Kd.C_below HR0.out HB.out) | (with_reducible refine Kd.C_alloc ?_ _) | (with_reducible refine Kd.C_drewN ?_ _) | (with_reducible refine Kd.C_drew ?_))); (case side2 => exact HC0.out); rintro e w' ⟨rfl, ⟨nd, rfl⟩⟩; refine ⟨_, rfl, ?_⟩; have hcz36_0 : w35.cell? ⟨gb248, 0, none⟩ = some (.int .i64 a1_0) := (blk_cell BK248.out 0).trans rfl; have hcz36_1 : w35.cell? ⟨gb248, 1, none⟩ = some (.int .i64 a1_1) := (blk_cell BK248.out 1).trans rfl; have hcz36_2 : w35.cell? ⟨gb248, 2, none⟩ = some (.int .i64 a1_2) := (blk_cell BK248.out 2).trans rfl; have hcz36_3 : w35.cell? ⟨gb248, 3, none⟩ = some (.int .i64 a1_3) := (blk_cell BK248.out 3).trans rfl; have hcz36_4 : w35.cell? ⟨gb248, 4, none⟩ = some (.int .i64 a1_4) := (blk_cell BK248.out 4).trans rfl; have hcz36_5 : w35.cell? ⟨gb248, 5, none⟩ = some (.bool a1_5) := (blk_cell BK248.out 5).trans rfl; have hfz36_0 := blk_frozen BK248.out 0; have hfz36_1 := blk_frozen BK248.out 1; have hfz36_2 := blk_frozen BK248.out 2; have hfz36_3 := blk_frozen BK248.out 3; have hfz36_4 := blk_frozen BK248.out 4; have hfz36_5 := blk_frozen BK248.out 5) | ((with_reducible refine gate_callee (f := 42) rfl ?_); refine goesL_ (some 17) rfl rfl Tryd.func42 (by kernel_rfl) rfl #[.slice A0 l0.length c0, .agg #[.int .i64 a1_0, .int .i64 a1_1, .int .i64 a1_2, .int .i64 a1_3, .int .i64 a1_4, .bool a1_5]] rfl (by (try simp only [List.map_toArray, List.map_cons, List.map_nil]); first | done | rfl | (simp only [List.length_drop, List.length_take]; rfl)) ?_; (with_reducible refine (devices_Add.calls _ _ l0 a1_0 a1_1 a1_2 a1_3 a1_4 a1_5 t251 t254 _ ?side1 ?side2 A7.out).mono ?_); (case side1 => repeat (first | exact (Kd.C_below HR0.out (by repeat (first | (with_reducible first | exact HB.out | apply below_alloc | apply pw_below_drewN | apply below_drew1 | refine below_set ?_ GE248.out) | exact HB.out))) | (with_reducible refine Kd.C_alloc ?_ _) | (with_reducible refine Kd.C_drewN ?_ _) | (with_reducible refine Kd.C_drew ?_))); (case side2 => exact HC0.out); rintro e w37 ⟨v252, rfl, ho0, hb⟩; refine ⟨_, rfl, ?_⟩; have n0_ := Aside0.mk (Kd.R_lower (Kd.R_newB ho0 (g := gb248) (o := .cells #[.int .i64 a1_0, .int .i64 a1_1, .int .i64 a1_2, .int .i64 a1_3, .int .i64 a1_4, .bool a1_5] 65 (0, 0)) (by (with_reducible repeat (first | refine blk_drewN ?_ _ | refine blk_drew ?_ | refine blk_alloc ?_ _)); exact BK248.out)) (below_size (by repeat (first | (with_reducible first | exact HB.out | apply below_alloc | apply pw_below_drewN | apply below_drew1 | refine below_set ?_ GE248.out) | exact HB.out)))); have n1_ := Aside0.mk (blk_below (g := gb248) (o := .cells #[.int .i64 a1_0, .int .i64 a1_1, .int .i64 a1_2, .int .i64 a1_3, .int .i64 a1_4, .bool a1_5] 65 (0, 0)) (by (with_reducible repeat (first | refine blk_drewN ?_ _ | refine blk_drew ?_ | refine blk_alloc ?_ _)); exact BK248.out) hb); have n2_ := Aside0.mk (below_step (by repeat (first | (with_reducible first | exact HB.out | apply below_alloc | apply pw_below_drewN | apply below_drew1 | refine below_set ?_ GE248.out) | exact HB.out)) hb); clear BK248; clear HB; have HO253 := n0_; have BK248 := n1_; have HB := n2_; clear n0_ n1_ n2_; (try clear hb); (try clear hb2); (try clear hk); (try clear hi); (try clear ho0); have hcz38_0 : w37.cell? ⟨gb248, 0, none⟩ = some (.int .i64 a1_0) := (blk_cell BK248.out 0).trans rfl; have hcz38_1 : w37.cell? ⟨gb248, 1, none⟩ = some (.int .i64 a1_1) := (blk_cell BK248.out 1).trans rfl; have hcz38_2 : w37.cell? ⟨gb248, 2, none⟩ = some (.int .i64 a1_2) := (blk_cell BK248.out 2).trans rfl; have hcz38_3 : w37.cell? ⟨gb248, 3, none⟩ = some (.int .i64 a1_3) := (blk_cell BK248.out 3).trans rfl; have hcz38_4 : w37.cell? ⟨gb248, 4, none⟩ = some (.int .i64 a1_4) := (blk_cell BK248.out 4).trans rfl; have hcz38_5 : w37.cell? ⟨gb248, 5, none⟩ = some (.bool a1_5) := (blk_cell BK248.out 5).trans rfl; have hfz38_0 := blk_frozen BK248.out 0; have hfz38_1 := blk_frozen BK248.out 1; have hfz38_2 := blk_frozen BK248.out 2; have hfz38_3 := blk_frozen BK248.out 3; have hfz38_4 := blk_frozen BK248.out 4; have hfz38_5 := blk_frozen BK248.out 5) | ((with_reducible refine gate_callee (f := 43) rfl ?_); refine goesL_ (some 23) rfl rfl Tryd.func43 (by kernel_rfl) rfl #[.slice A0 l0.length c0, .agg #[.int .i64 a1_0, .int .i64 a1_1, .int .i64 a1_2, .int .i64 a1_3, .int .i64 a1_4, .bool a1_5]] rfl (by (try simp only [List.map_toArray, List.map_cons, List.map_nil]); first | done | rfl | (simp only [List.length_drop, List.length_take]; rfl)) ?_; (with_reducible refine (signatoryref48_Add.calls k _ _ l0 a1_0 a1_1 a1_2 a1_3 a1_4 a1_5 t255 t258 _ ?side1 ?side2 A8.out).mono ?_); (case side1 => repeat (first | exact (Kd.C_below HR0.out HB.out) | (with_reducible refine Kd.C_alloc ?_ _) | (with_reducible refine Kd.C_drewN ?_ _) | (with_reducible refine Kd.C_drew ?_))); (case side2 => exact HC0.out); rintro e w39 ⟨v256, rfl, ho0, hb⟩; refine ⟨_, rfl, ?_⟩; have n0_ := Aside0.mk (Kd.R_elder' (by (with_reducible repeat (first | apply Kd.R_alloc | apply Kd.R_drewN | apply Kd.R_drew)); exact HO253.out) (Kd.R_base ho0) hb); have n1_ := Aside0.mk (Kd.R_lower (Kd.R_newB (Kd.R_new' ho0 (Kd.R_lt (by (with_reducible repeat (first | apply Kd.R_alloc | apply Kd.R_drewN | apply Kd.R_drew)); exact HO253.out))) (g := gb248) (o := .cells #[.int .i64 a1_0, .int .i64 a1_1, .int .i64 a1_2, .int .i64 a1_3, .int .i64 a1_4, .bool a1_5] 65 (0, 0)) (by (with_reducible repeat (first | refine blk_drewN ?_ _ | refine blk_drew ?_ | refine blk_alloc ?_ _)); exact BK248.out)) (below_size (by repeat (first | (with_reducible first | exact HB.out | apply below_alloc | apply pw_below_drewN | apply below_drew1 | refine below_set ?_ GE248.out) | exact HB.out)))); have n2_ := Aside0.mk (blk_below (g := gb248) (o := .cells #[.int .i64 a1_0, .int .i64 a1_1, .int .i64 a1_2, .int .i64 a1_3, .int .i64 a1_4, .bool a1_5] 65 (0, 0)) (by (with_reducible repeat (first | refine blk_drewN ?_ _ | refine blk_drew ?_ | refine blk_alloc ?_ _)); exact BK248.out) hb); have n3_ := Aside0.mk (below_step (by repeat (first | (with_reducible first | exact HB.out | apply below_alloc | apply pw_below_drewN | apply below_drew1 | refine below_set ?_ GE248.out) | exact HB.out)) hb); clear HO253; clear BK248; clear HB; have HO253 := n0_; have HO257 := n1_; have BK248 := n2_; have HB := n3_; clear n0_ n1_ n2_ n3_; (try clear hb); (try clear hb2); (try clear hk); (try clear hi); (try clear ho0)) | ((with_reducible refine gate_callee (f := 44) rfl ?_); refine goesL_ (some 27) rfl rfl Tryd.func44 (by kernel_rfl) rfl #[.slice A0 l0.length c0] rfl (by (try simp only [List.map_toArray, List.map_cons, List.map_nil]); first | done | rfl | (simp only [List.length_drop, List.length_take]; rfl)) ?_; (with_reducible refine (devices_Check.calls _ _ l0 t259 _ ?side1 ?side2 A9.out).mono ?_); (case side1 => repeat (first | exact (Kd.C_below HR0.out HB.out) | (with_reducible refine Kd.C_alloc ?_ _) | (with_reducible refine Kd.C_drewN ?_ _) | (with_reducible refine Kd.C_drew ?_))); (case side2 => exact HC0.out); rintro e w40 ⟨rfl, hb⟩; refine ⟨_, rfl, ?_⟩; have n0_ := Aside0.mk (Kd.R_below (by (with_reducible repeat (first | apply Kd.R_alloc | apply Kd.R_drewN | apply Kd.R_drew)); exact HO253.out) hb); have n1_ := Aside0.mk (Kd.R_below (by (with_reducible repeat (first | apply Kd.R_alloc | apply Kd.R_drewN | apply Kd.R_drew)); exact HO257.out) hb); have n2_ := Aside0.mk (blk_below (g := gb248) (o := .cells #[.int .i64 a1_0, .int .i64 a1_1, .int .i64 a1_2, .int .i64 a1_3, .int .i64 a1_4, .bool a1_5] 65 (0, 0)) (by (with_reducible repeat (first | refine blk_drewN ?_ _ | refine blk_drew ?_ | refine blk_alloc ?_ _)); exact BK248.out) hb); have n3_ := Aside0.mk (below_step (by repeat (first | (with_reducible first | exact HB.out | apply below_alloc | apply pw_below_drewN | apply below_drew1 | refine below_set ?_ GE248.out) | exact HB.out)) hb); clear HO253; clear HO257; clear BK248; clear HB; have HO253 := n0_; have HO257 := n1_; have BK248 := n2_; have HB := n3_; clear n0_ n1_ n2_ n3_; (try clear hb); (try clear hb2); (try clear hk); (try clear hi)) | ((with_reducible refine gate_callee (f := 45) rfl ?_); refine goesL_ (some 29) rfl rfl Tryd.func45 (by kernel_rfl) rfl #[.slice A0 l0.length c0] rfl (by (try simp only [List.map_toArray, List.map_cons, List.map_nil]); first | done | rfl | (simp only [List.length_drop, List.length_take]; rfl)) ?_; (with_reducible refine (signatoryref48_Check.calls k _ _ l0 t260 _ ?side1 ?side2 A10.out).mono ?_); (case side1 => repeat (first | exact (Kd.C_below HR0.out HB.out) | (with_reducible refine Kd.C_alloc ?_ _) | (with_reducible refine Kd.C_drewN ?_ _) | (with_reducible refine Kd.C_drew ?_))); (case side2 => exact HC0.out); rintro e w41 ⟨rfl, hb⟩; refine ⟨_, rfl, ?_⟩; have n0_ := Aside0.mk (Kd.R_below (by (with_reducible repeat (first | apply Kd.R_alloc | apply Kd.R_drewN | apply Kd.R_drew)); exact HO253.out) hb); have n1_ := Aside0.mk (Kd.R_below (by (with_reducible repeat (first | apply Kd.R_alloc | apply Kd.R_drewN | apply Kd.R_drew)); exact HO257.out) hb); have n2_ := Aside0.mk (blk_below (g := gb248) (o := .cells #[.int .i64 a1_0, .int .i64 a1_1, .int .i64 a1_2, .int .i64 a1_3, .int .i64 a1_4, .bool a1_5] 65 (0, 0)) (by (with_reducible repeat (first | refine blk_drewN ?_ _ | refine blk_drew ?_ | refine blk_alloc ?_ _)); exact BK248.out) hb); have n3_ := Aside0.mk (below_step (by repeat (first | (with_reducible first | exact HB.out | apply below_alloc | apply pw_below_drewN | apply below_drew1 | refine below_set ?_ GE248.out) | exact HB.out)) hb); clear HO253; clear HO257; clear BK248; clear HB; have HO253 := n0_; have HO257 := n1_; have BK248 := n2_; have HB := n3_; clear n0_ n1_ n2_ n3_; (try clear hb); (try clear hb2); (try clear hk); (try clear hi)))
        go_ret
        exact ⟨by first | rfl | (simp [errW_none, errW_some] <;> rfl) | (simp [*, errW_none, errW_some] <;> rfl), by repeat (first | (with_reducible first | exact HB.out | apply below_alloc | apply pw_below_drewN | apply below_drew1 | refine below_set ?_ GE248.out) | exact HB.out)⟩
    · replace c6 := Bool.eq_false_iff.mpr c6
      subst c6
      have H1 : (some true) = some r := by rw [if_neg (show ¬ (false = true) by decide)] at H; exact H
      clear H
      have H := H1
      clear H1
      obtain rfl := Option.some.inj H
      go_enter Tryd.func10, Tryd.ntmps10
      go_wp2_with (first | ((with_reducible refine gate_dst (N := 3) rfl ?_); refine box_event ?hg (N := 3) ?hd (cs := #[.int .i64 a1_0, .int .i64 a1_1, .int .i64 a1_2, .int .i64 a1_3, .int .i64 a1_4, .bool a1_5]) (t := 65) ?hr ?_; (case hd => rfl); (case hg => rfl); (case hr => first | (go_simp; done) | (go_simp; rfl)); intro gb248 hg w42 hbox hb; have n0_ := Aside0.mk (below_step (by repeat (first | (with_reducible first | exact HB.out | apply below_alloc | apply pw_below_drewN | apply below_drew1) | exact HB.out)) hb); have n1_ := Aside0.mk (hbox); have n2_ := Aside0.mk ((by rw [hg]; exact (below_size (by repeat (first | (with_reducible first | exact HB.out | apply below_alloc | apply pw_below_drewN | apply below_drew1) | exact HB.out))) : w.heap.size ≤ gb248)); have n3_ := Aside0.mk ((by rw [hg]; exact (below_size (by repeat (first | (with_reducible first | exact HB.out | apply below_alloc | apply pw_below_drewN | apply below_drew1) | exact HB.out))) : w.heap.size ≤ gb248)); clear HB; have HB := n0_; have BK248 := n1_; have GW248 := n2_; have GE248 := n3_; clear n0_ n1_ n2_ n3_; clear hb hbox hg) | ((with_reducible refine gate_callee (f := 40) rfl ?_); refine goesL_ (some 9) rfl rfl Tryd.func40 (by kernel_rfl) rfl #[] rfl (by (try simp only [List.map_toArray, List.map_cons, List.map_nil]); first | done | rfl | (simp only [List.length_drop, List.length_take]; rfl)) ?_; (with_reducible refine (signatorylaw48_sane.calls (hLd := ?sideL) k  true _ A3.out).mono ?_); (case sideL => exact Go.Proofs.YtjbcfdgnafmbkaaDoor.Cod.Laid.below HLd.out (by repeat (first | (with_reducible first | exact HB.out | apply below_alloc | apply pw_below_drewN | apply below_drew1 | refine below_set ?_ GE248.out) | exact HB.out))); rintro e w43 ⟨rfl, hb⟩; refine ⟨_, rfl, ?_⟩; have n0_ := Aside0.mk (blk_below (g := gb248) (o := .cells #[.int .i64 a1_0, .int .i64 a1_1, .int .i64 a1_2, .int .i64 a1_3, .int .i64 a1_4, .bool a1_5] 65 (0, 0)) (by (with_reducible repeat (first | refine blk_drewN ?_ _ | refine blk_drew ?_ | refine blk_alloc ?_ _)); exact BK248.out) hb); have n1_ := Aside0.mk (below_step (by repeat (first | (with_reducible first | exact HB.out | apply below_alloc | apply pw_below_drewN | apply below_drew1 | refine below_set ?_ GE248.out) | exact HB.out)) hb); clear BK248; clear HB; have BK248 := n0_; have HB := n1_; clear n0_ n1_; (try clear hb); (try clear hb2); (try clear hk); (try clear hi)) | ((with_reducible refine gate_callee (f := 41) rfl ?_); refine goesL_ (some 12) rfl rfl Tryd.func41 (by kernel_rfl) rfl #[.slice A0 l0.length c0] rfl (by (try simp only [List.map_toArray, List.map_cons, List.map_nil]); first | done | rfl | (simp only [List.length_drop, List.length_take]; rfl)) ?_; (with_reducible refine (signatoryref48_Few.calls _ _ l0 false _ ?side1 ?side2 A5.out).mono ?_); (case side1 => repeat (first | exact (Kd.C_below HR0.out HB.out) | (with_reducible refine Kd.C_alloc ?_ _) | (with_reducible refine Kd.C_drewN ?_ _) | (with_reducible refine Kd.C_drew ?_))); (case side2 => exact HC0.out); rintro e w' ⟨rfl, ⟨nd, rfl⟩⟩; refine ⟨_, rfl, ?_⟩))
      go_ret
      exact ⟨by first | rfl | (simp [errW_none, errW_some] <;> rfl) | (simp [*, errW_none, errW_some] <;> rfl), by repeat (first | (with_reducible first | exact HB.out | apply below_alloc | apply pw_below_drewN | apply below_drew1 | refine below_set ?_ GE248.out) | exact HB.out)⟩
  · replace c4 := Bool.eq_false_iff.mpr c4
    subst c4
    have H1 : (some false) = some r := by rw [if_neg (show ¬ (false = true) by decide)] at H; exact H
    clear H
    have H := H1
    clear H1
    obtain rfl := Option.some.inj H
    go_enter Tryd.func10, Tryd.ntmps10
    go_wp2_with (first | ((with_reducible refine gate_dst (N := 3) rfl ?_); refine box_event ?hg (N := 3) ?hd (cs := #[.int .i64 a1_0, .int .i64 a1_1, .int .i64 a1_2, .int .i64 a1_3, .int .i64 a1_4, .bool a1_5]) (t := 65) ?hr ?_; (case hd => rfl); (case hg => rfl); (case hr => first | (go_simp; done) | (go_simp; rfl)); intro gb248 hg w44 hbox hb; have n0_ := Aside0.mk (below_step (by repeat (first | (with_reducible first | exact HB.out | apply below_alloc | apply pw_below_drewN | apply below_drew1) | exact HB.out)) hb); have n1_ := Aside0.mk (hbox); have n2_ := Aside0.mk ((by rw [hg]; exact (below_size (by repeat (first | (with_reducible first | exact HB.out | apply below_alloc | apply pw_below_drewN | apply below_drew1) | exact HB.out))) : w.heap.size ≤ gb248)); have n3_ := Aside0.mk ((by rw [hg]; exact (below_size (by repeat (first | (with_reducible first | exact HB.out | apply below_alloc | apply pw_below_drewN | apply below_drew1) | exact HB.out))) : w.heap.size ≤ gb248)); clear HB; have HB := n0_; have BK248 := n1_; have GW248 := n2_; have GE248 := n3_; clear n0_ n1_ n2_ n3_; clear hb hbox hg) | ((with_reducible refine gate_callee (f := 40) rfl ?_); refine goesL_ (some 9) rfl rfl Tryd.func40 (by kernel_rfl) rfl #[] rfl (by (try simp only [List.map_toArray, List.map_cons, List.map_nil]); first | done | rfl | (simp only [List.length_drop, List.length_take]; rfl)) ?_; (with_reducible refine (signatorylaw48_sane.calls (hLd := ?sideL) k  false _ A3.out).mono ?_); (case sideL => exact Go.Proofs.YtjbcfdgnafmbkaaDoor.Cod.Laid.below HLd.out (by repeat (first | (with_reducible first | exact HB.out | apply below_alloc | apply pw_below_drewN | apply below_drew1 | refine below_set ?_ GE248.out) | exact HB.out))); rintro e w45 ⟨rfl, hb⟩; refine ⟨_, rfl, ?_⟩; have n0_ := Aside0.mk (blk_below (g := gb248) (o := .cells #[.int .i64 a1_0, .int .i64 a1_1, .int .i64 a1_2, .int .i64 a1_3, .int .i64 a1_4, .bool a1_5] 65 (0, 0)) (by (with_reducible repeat (first | refine blk_drewN ?_ _ | refine blk_drew ?_ | refine blk_alloc ?_ _)); exact BK248.out) hb); have n1_ := Aside0.mk (below_step (by repeat (first | (with_reducible first | exact HB.out | apply below_alloc | apply pw_below_drewN | apply below_drew1 | refine below_set ?_ GE248.out) | exact HB.out)) hb); clear BK248; clear HB; have BK248 := n0_; have HB := n1_; clear n0_ n1_; (try clear hb); (try clear hb2); (try clear hk); (try clear hi)))
    go_ret
    exact ⟨by first | rfl | (simp [errW_none, errW_some] <;> rfl) | (simp [*, errW_none, errW_some] <;> rfl), by repeat (first | (with_reducible first | exact HB.out | apply below_alloc | apply pw_below_drewN | apply below_drew1 | refine below_set ?_ GE248.out) | exact HB.out)⟩
end Go.Proofs.YtjbcfdgnafmbkaaDoor.PBig
end
section
set_option linter.unusedVariables false
namespace Go.Proofs.YtjbcfdgnafmbkaaDoor.Dev
open Go.RowKit Go.Proofs.YtjbcfdgnafmbkaaDoor Go.Proofs.YtjbcfdgnafmbkaaDoorW.PrintWords Go.Proofs.YtjbcfdgnafmbkaaDoorW.PrintLast Go.Proofs.YtjbcfdgnafmbkaaDoor.PBig
theorem same_refl (l : List S65) (hl : l.length ≤ 4096) : ∀ n i, i + n = l.length → Ev (fun K => signatoryref48_Same.l0 K l l (i : Int)) true
  | 0, i, hi => Ev.step (fun K => by rw [signatoryref48_Same.l0]) (ev_neg (by omega) (ev_id _ rfl))
  | n + 1, i, hi => by
    have hil : i < l.length := by omega
    have hw : wrap64 ((i : Int) + 1) = ((i + 1 : Nat) : Int) := by rw [wrap_small (by omega) (by omega)]; omega
    refine Ev.step (fun K => by rw [signatoryref48_Same.l0]) (ev_pos (by omega) (ev_pos (by omega) (ev_pos (by omega) ?_)))
    rw [rd_at l i hil, hw]
    refine ev_neg (by simp) (same_refl l hl n (i + 1) (by omega))
theorem ref_same (l : List S65) (hl : l.length ≤ 4096) : Ev (fun K => signatoryref48_Same.f K l l) true := by
  unfold signatoryref48_Same.f
  exact ev_pos rfl (same_refl l hl l.length 0 (by omega))
theorem used_again {l : List S65} (hG : Good l) {x : S65} (hx : rightD x = true) : l.any (againB x) = usedR l x.f4 := by
  unfold usedR
  rw [Bool.eq_iff_iff, List.any_eq_true, List.any_eq_true]
  have hg := rightD_gone hx
  constructor
  · rintro ⟨y, hy, e⟩
    unfold againB at e
    simp only [Bool.and_eq_true, Bool.not_eq_true', beq_iff_eq] at e
    exact ⟨y, hy, by rw [decide_eq_true (hg.1 e.1), decide_eq_true e.2]; rfl⟩
  · rintro ⟨y, hy, e⟩
    simp only [Bool.and_eq_true, decide_eq_true_eq] at e
    refine ⟨y, hy, ?_⟩
    unfold againB
    rw [hg.2 e.1, e.2]
    simp
theorem ref_add_j2 (l : List S65) (x : S65) (i : Nat) (u : Bool) (hl : l.length ≤ 1024) (hi : i ≤ l.length) :
    Ev (fun K => signatoryref48_Add.j2 K l (i : Int) u x.f0 x.f1 x.f2 x.f3 x.f4 x.f5) (if u = true then ([], 151) else if l.length = 1024 then ([], 2) else (insL l i x, 0)) := by
  refine Ev.step (fun K => by rw [signatoryref48_Add.j2]) ?_
  obtain ⟨R, hR⟩ : ∃ R, (if u = true then (([] : List S65), (151 : Int)) else if l.length = 1024 then ([], 2) else (insL l i x, 0)) = R := ⟨_, rfl⟩
  rw [hR]
  by_cases hu : u = true
  · rw [if_pos hu] at hR
    exact ev_pos hu (ev_id _ hR)
  · rw [if_neg hu] at hR
    subst hR
    refine ev_neg hu ?_
    by_cases h : l.length = 1024
    · rw [if_pos h]
      exact ev_pos (by omega) (ev_id _ rfl)
    · rw [if_neg h]
      refine ev_neg (by omega) ?_
      simp only [Option.bind_some, Int.toNat_natCast]
      refine ev_pos (by omega) (ev_pos (by omega) (ev_pos ?_ (ev_pos ?_ (ev_pos ?_ (ev_id _ ?_)))))
      · simp only [List.length_nil, List.length_take]; omega
      · simp only [List.length_append, List.length_nil, List.length_take, List.length_cons]; omega
      · simp only [List.length_append, List.length_nil, List.length_take, List.length_cons, List.length_drop]; omega
      · unfold insL; rw [List.nil_append]
theorem ref_add_j1 (l : List S65) (x : S65) (i : Nat) (hl : l.length ≤ 1024) (hi : i ≤ l.length) :
    Ev (fun K => signatoryref48_Add.j1 K l (i : Int) x.f0 x.f1 x.f2 x.f3 x.f4 x.f5) (if ((decide (i < l.length) && decide ((l.getD i z65).f0 = x.f0)) || usedR l x.f4) = true then ([], 151) else if l.length = 1024 then ([], 2) else (insL l i x, 0)) := by
  refine Ev.step (fun K => by rw [signatoryref48_Add.j1]) ?_
  have hu := ref_used l x.f4 (by omega)
  have tail : Ev (fun n => (signatoryref48_used.f n l x.f4).bind fun t => signatoryref48_Add.j2 n l (i : Int) t x.f0 x.f1 x.f2 x.f3 x.f4 x.f5) (if usedR l x.f4 = true then ([], 151) else if l.length = 1024 then ([], 2) else (insL l i x, 0)) :=
    Ev.bind hu (ref_add_j2 l x i _ hl hi)
  by_cases h : i < l.length
  · refine ev_pos (by omega) (ev_pos (by omega) ?_)
    rw [rd_at l i h, decide_eq_true h, Bool.true_and, getD_at l i h]
    by_cases he : l[i].f0 = x.f0
    · rw [decide_eq_true he, Bool.true_or]
      exact ev_pos he (ref_add_j2 l x i true hl hi)
    · rw [decide_eq_false he, Bool.false_or]
      exact ev_neg he tail
  · rw [decide_eq_false h, Bool.false_and, Bool.false_or]
    exact ev_neg (by omega) tail
theorem atD_step (l : List S65) (no : Int) (i : Nat) (hil : i < l.length) (h : ∀ j, j < i → (l.getD j z65).f0 < no) (hlt : ¬ l[i].f0 < no) (hp : l.Pairwise (fun a b => a.f0 < b.f0)) : atD l no = i := by
  refine atD_eq l no i (by omega) h (fun j hj hjl => ?_)
  rw [getD_at l j hjl]
  rcases Nat.lt_or_ge i j with h2 | h2
  · have := List.pairwise_iff_getElem.1 hp i j hil hjl h2; omega
  · obtain rfl : j = i := by omega
    omega
theorem ref_add_l (l : List S65) (x : S65) (hl : l.length ≤ 1024) (hG : Good l) (hx : rightD x = true) : ∀ n i, i + n = l.length → (∀ j, j < i → (l.getD j z65).f0 < x.f0) →
    Ev (fun K => signatoryref48_Add.l0 K l (i : Int) x.f0 x.f1 x.f2 x.f3 x.f4 x.f5) (if (foundD l x.f0 || l.any (againB x)) = true then ([], 151) else if l.length = 1024 then ([], 2) else (insL l (atD l x.f0) x, 0))
  | 0, i, hi, h => by
    have hat : atD l x.f0 = i := atD_eq l x.f0 i (by omega) h (fun j h1 h2 => by omega)
    refine Ev.step (fun K => by rw [signatoryref48_Add.l0]) (ev_neg (by omega) ?_)
    unfold foundD
    rw [used_again hG hx, hat]
    exact ref_add_j1 l x i hl (by omega)
  | n + 1, i, hi, h => by
    have hil : i < l.length := by omega
    have hw : wrap64 ((i : Int) + 1) = ((i + 1 : Nat) : Int) := by rw [wrap_small (by omega) (by omega)]; omega
    refine Ev.step (fun K => by rw [signatoryref48_Add.l0]) (ev_pos (by omega) (ev_pos (by omega) ?_))
    rw [rd_at l i hil, hw]
    by_cases hlt : l[i].f0 < x.f0
    · refine ev_pos hlt (ref_add_l l x hl hG hx n (i + 1) (by omega) (fun j hj => ?_))
      rcases Nat.lt_or_ge j i with h2 | h2
      · exact h j h2
      · obtain rfl : j = i := by omega
        rw [getD_at l j hil]; exact hlt
    · refine ev_neg hlt ?_
      have hat := atD_step l x.f0 i hil h hlt hG.n
      unfold foundD
      rw [used_again hG hx, hat]
      exact ref_add_j1 l x i hl (by omega)
theorem ref_add (l : List S65) (x : S65) : Ev (fun K => signatoryref48_Add.f K l x.f0 x.f1 x.f2 x.f3 x.f4 x.f5) (addV l x) := by
  unfold signatoryref48_Add.f
  refine Ev.bind (ref_check l) ?_
  by_cases hc : chk l = 0
  · obtain ⟨hl, hG⟩ := chk_ok.1 hc
    unfold addV
    rw [if_neg (fun h => h hc)]
    refine ev_pos hc (Ev.bind (a := rightD x) (ev_const (K := 33) (fun k => ref_right x k)) ?_)
    cases hx : rightD x with
    | false =>
      rw [if_pos rfl]
      exact ev_neg (by decide) (ev_id _ rfl)
    | true =>
      rw [if_neg (by decide)]
      exact ev_pos rfl (ref_add_l l x hl hG hx l.length 0 (by omega) (fun j hj => by omega))
  · unfold addV
    rw [if_pos hc]
    exact ev_neg hc (ev_id _ rfl)
theorem addV_len (l : List S65) (x : S65) : (addV l x).1.length ≤ 1024 := by
  unfold addV
  split
  · simp
  · rename_i h
    have hl := (chk_ok.1 (Classical.byContradiction h)).1
    split
    · simp
    · split
      · simp
      · split
        · simp
        · rename_i h4
          unfold insL
          simp only [List.length_append, List.length_take, List.length_drop, List.length_cons, List.length_nil]
          have := atD_le l x.f0
          omega
theorem spec_pure (l : List S65) (x : S65) : Ev (fun K => signatorylaw48_DevicesSpec.f K l x.f0 x.f1 x.f2 x.f3 x.f4 x.f5) true := by
  unfold signatorylaw48_DevicesSpec.f
  refine Ev.bind sane_ev (ev_pos rfl ?_)
  have few : ∃ q, signatoryref48_Few.f l = some q := by
    unfold signatoryref48_Few.f
    split
    · exact ⟨_, rfl⟩
    · split <;> exact ⟨_, rfl⟩
  obtain ⟨q, hq⟩ := few
  rw [hq]
  simp only [Option.bind_some]
  cases q with
  | false => exact ev_neg (by decide) (ev_id _ rfl)
  | true =>
    refine ev_pos rfl ?_
    unfold devices_Add.f
    simp only [Option.bind_some]
    refine Ev.bind (ref_add l x) ?_
    unfold devices_Check.f
    simp only [Option.bind_some]
    refine Ev.bind (ref_check l) (ev_pos rfl (Ev.bind (ref_same _ (Nat.le_trans (addV_len l _) (by decide))) (ev_pos rfl (ev_id _ ?_))))
    simp
end Go.Proofs.YtjbcfdgnafmbkaaDoor.Dev
end
