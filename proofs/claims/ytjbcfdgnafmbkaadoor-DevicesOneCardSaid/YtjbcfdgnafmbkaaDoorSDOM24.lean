/- Lemmas, walks and printed functions for the claim. -/
import Derived.Test.YtjbcfdgnafmbkaaDoorSDOM2
import Derived.Test.YtjbcfdgnafmbkaaDoorSDOM19
import Derived.Test.YtjbcfdgnafmbkaaDoorSDOM21
import Derived.Test.YtjbcfdgnafmbkaaDoorSDOM23
import Derived.Lib.SlBytesConst
section
set_option linter.unusedVariables false
namespace Go.Proofs.YtjbcfdgnafmbkaaDoor.Dev
open Go.RowKit Go.Proofs.YtjbcfdgnafmbkaaDoor Go.Proofs.YtjbcfdgnafmbkaaDoorW.PrintWords Go.Proofs.YtjbcfdgnafmbkaaDoor.PBig
theorem lit_C {α : Type} (d : Kd α) (W : World) (e : TypeId) (fr : Nat × Nat) (xs : List α) (inner : List Value) (hm : xs.length ≤ 1000) (hl : inner.length = xs.length * d.sz) (hr : ∀ W' j p, xs[j]? = some p → d.K W' p ((inner.drop (j * d.sz)).take d.sz)) :
    d.C (W.alloc (.cells inner.toArray e fr)) (some ⟨W.heap.size, 0, none⟩) xs.length xs := by
  refine ⟨rfl, by omega, fun _ => ⟨_, rfl, fun j p hj => ⟨(inner.drop (j * d.sz)).take d.sz, ?_, hr _ j p hj, fun i u hu => ?_⟩⟩⟩
  · have hjl := (List.getElem?_eq_some_iff.1 hj).1
    have : j * d.sz + d.sz ≤ inner.length := by rw [hl, ← Nat.succ_mul]; exact Nat.mul_le_mul_right _ hjl
    rw [List.length_take, List.length_drop]; omega
  · rw [add_plain, cell_of_row _ W.heap.size _ inner.toArray e fr (blk_new W _)]
    rw [List.getElem?_take, List.getElem?_drop] at hu
    split at hu
    · simpa using hu
    · cases hu
theorem two_C (W : World) : Kd.C k65 (W.alloc (.cells #[.int .i64 3, .int .i64 10, .int .i64 0, .int .i64 0, .int .i64 4, .bool false, .int .i64 4, .int .i64 20, .int .i64 0, .int .i64 0, .int .i64 16, .bool false] 65)) (some ⟨W.heap.size, 0, none⟩) 2 two :=
  lit_C k65 W 65 (0, 0) two _ (by decide) rfl (fun W' j p hj => by
    match j, hj with
    | 0, hj => cases hj; exact k65_mk W' _
    | 1, hj => cases hj; exact k65_mk W' _)
theorem one_C (W : World) : Kd.C k65 (W.alloc (.cells #[.int .i64 0, .int .i64 0, .int .i64 0, .int .i64 0, .int .i64 1, .bool false] 65)) (some ⟨W.heap.size, 0, none⟩) 1 [⟨0, 0, 0, 0, 1, false⟩] :=
  lit_C k65 W 65 (0, 0) [⟨0, 0, 0, 0, 1, false⟩] _ (by decide) rfl (fun W' j p hj => by
    match j, hj with
    | 0, hj => cases hj; exact k65_mk W' _)
theorem pair_C (W : World) : Kd.C k65 (W.alloc (.cells #[.int .i64 0, .int .i64 0, .int .i64 0, .int .i64 0, .int .i64 4, .bool false, .int .i64 1, .int .i64 0, .int .i64 0, .int .i64 1, .int .i64 4, .bool false] 65)) (some ⟨W.heap.size, 0, none⟩) 2 [⟨0, 0, 0, 0, 4, false⟩, ⟨1, 0, 0, 1, 4, false⟩] :=
  lit_C k65 W 65 (0, 0) [⟨0, 0, 0, 0, 4, false⟩, ⟨1, 0, 0, 1, 4, false⟩] _ (by decide) rfl (fun W' j p hj => by
    match j, hj with
    | 0, hj => cases hj; exact k65_mk W' _
    | 1, hj => cases hj; exact k65_mk W' _)
theorem txt_C (W : World) (fr : Nat × Nat) : Kd.C (Kd.int .u8) (W.alloc (.cells #[.int .u8 116, .int .u8 101, .int .u8 120, .int .u8 116] 5 fr)) (some ⟨W.heap.size, 0, none⟩) 4 txt :=
  lit_C (Kd.int .u8) W 5 fr txt [.int .u8 116, .int .u8 101, .int .u8 120, .int .u8 116] (by decide) rfl (fun W' j p hj => by
    match j, hj with
    | 0, hj => cases hj; exact rfl
    | 1, hj => cases hj; exact rfl
    | 2, hj => cases hj; exact rfl
    | 3, hj => cases hj; exact rfl)
theorem ab_C (W : World) (a b : Int) : Kd.C (Kd.int .i64) (W.alloc (.cells #[.int .i64 a, .int .i64 b] 3)) (some ⟨W.heap.size, 0, none⟩) 2 [a, b] :=
  lit_C (Kd.int .i64) W 3 (0, 0) [a, b] [.int .i64 a, .int .i64 b] (by simp) rfl (fun W' j p hj => by
    match j, hj with
    | 0, hj => cases hj; exact rfl
    | 1, hj => cases hj; exact rfl)
theorem s_add {l : List S65} {c : Nat} (A : Option Addr) (W : World) (x : S65) (r : List S65) (n : Int) (hC : Kd.C k65 W A l.length l) (hc : l.length ≤ c) (h : devices_Add.f l x.f0 x.f1 x.f2 x.f3 x.f4 x.f5 = some (r, n)) :
    Calls Tryd.prog 42 #[.slice A l.length c, argD x] W fun e w' => ∃ A' c', e = .returned (.tuple #[.slice A' r.length c', .int .i64 n]) ∧ r.length ≤ c' ∧ Kd.C k65 w' A' r.length r ∧ Below W.heap.size W w' :=
  (devices_Add.calls A c l x.f0 x.f1 x.f2 x.f3 x.f4 x.f5 r n W hC hc h).mono fun e w' ⟨v, e1, hR, hb⟩ => by
    obtain ⟨A', c', rfl, h1, h2⟩ := Kd.R_reads hR
    exact ⟨A', c', e1, h1, h2, hb⟩
theorem s_add1 (A : Option Addr) (W : World) (hC : Kd.C k65 W A 2 two) : Calls Tryd.prog 42 #[.slice A 2 2, .agg #[.int .i64 9, .int .i64 30, .int .i64 0, .int .i64 0, .int .i64 0, .bool true]] W fun e w' => ∃ A' c', e = .returned (.tuple #[.slice A' 3 c', .int .i64 0]) ∧ 3 ≤ c' ∧ Kd.C k65 w' A' 3 lost ∧ Below W.heap.size W w' :=
  s_add (l := two) (c := 2) A W ⟨9, 30, 0, 0, 0, true⟩ lost 0 hC (by decide) add1
theorem s_add2 (A : Option Addr) (W : World) (hC : Kd.C k65 W A 2 two) : Calls Tryd.prog 42 #[.slice A 2 2, .agg #[.int .i64 5, .int .i64 0, .int .i64 0, .int .i64 0, .int .i64 4, .bool false]] W fun e w' => ∃ v, e = .returned (.tuple #[v, .int .i64 151]) ∧ Below W.heap.size W w' :=
  (s_add (l := two) (c := 2) A W ⟨5, 0, 0, 0, 4, false⟩ [] 151 hC (by decide) add2).mono fun e w' ⟨_, _, e1, _, _, hb⟩ => ⟨_, e1, hb⟩
theorem s_add3 (A : Option Addr) (W : World) (hC : Kd.C k65 W A 2 two) : Calls Tryd.prog 42 #[.slice A 2 2, .agg #[.int .i64 3, .int .i64 0, .int .i64 0, .int .i64 0, .int .i64 64, .bool false]] W fun e w' => ∃ v, e = .returned (.tuple #[v, .int .i64 151]) ∧ Below W.heap.size W w' :=
  (s_add (l := two) (c := 2) A W ⟨3, 0, 0, 0, 64, false⟩ [] 151 hC (by decide) add3).mono fun e w' ⟨_, _, e1, _, _, hb⟩ => ⟨_, e1, hb⟩
theorem s_add4 (A : Option Addr) (W : World) (hC : Kd.C k65 W A 2 two) : Calls Tryd.prog 42 #[.slice A 2 2, .agg #[.int .i64 5, .int .i64 0, .int .i64 0, .int .i64 0, .int .i64 1, .bool false]] W fun e w' => ∃ v, e = .returned (.tuple #[v, .int .i64 480]) ∧ Below W.heap.size W w' :=
  (s_add (l := two) (c := 2) A W ⟨5, 0, 0, 0, 1, false⟩ [] 480 hC (by decide) add4).mono fun e w' ⟨_, _, e1, _, _, hb⟩ => ⟨_, e1, hb⟩
theorem s_cur (W : World) : Calls Tryd.prog 47 #[.slice none 0 0, .int .i64 64, .int .i64 0, .int .i64 0] W fun e w' => e = .returned (.tuple #[.int .i64 0, .int .i64 0, .bool false, .int .i64 1]) ∧ Below W.heap.size W w' :=
  devices_Current.calls none 0 [] 64 0 0 0 0 false 1 W (Kd.C_nil _ _) (Nat.le_refl _) cur1
theorem s_sign (A : Option Addr) (W : World) (hLd : Sha.Laid W) (hC : Kd.C (Kd.int .u8) W A 4 txt) : Calls Tryd.prog 54 #[.int .i64 2, .slice A 4 4] W fun e w' => e = .returned (.tuple #[.agg #[.int .i64 (Cod.sgE 2 txt), .int .i64 (Cod.sgS 2 txt)], .int .i64 0]) ∧ Below W.heap.size W w' :=
  sign_Sign.calls 2 A 4 txt _ _ _ W hLd hC (by decide) sgn
theorem cur_two20 : devices_current.v two 0 20 0 = (⟨4, 20, 0, 0, 16, false⟩, true, 0) := by
  rw [curv_ok chk_two (by decide)]
  simp [cur, two, bestD, stepD, selB]
theorem cur_two19 : devices_current.v two 0 19 0 = (⟨3, 10, 0, 0, 4, false⟩, true, 0) := by
  rw [curv_ok chk_two (by decide)]
  simp [cur, two, bestD, stepD, selB]
theorem cur_two9 : devices_current.v two 0 9 0 = (z65, false, 0) := by
  rw [curv_ok chk_two (by decide)]
  simp [cur, two, bestD, selB]
theorem cur_nil0 : devices_current.v [] 0 0 0 = (z65, false, 0) := by
  rw [curv_ok chk_nil (by decide)]
  simp [cur, bestD]
theorem cur_lost29 : devices_current.v lost 0 29 0 = (⟨4, 20, 0, 0, 16, false⟩, true, 0) := by
  rw [curv_ok chk_lost (by decide)]
  simp [cur, lost, bestD, stepD, selB]
theorem cur_lost30 : devices_current.v lost 0 30 0 = (⟨9, 30, 0, 0, 0, true⟩, false, 0) := by
  rw [curv_ok chk_lost (by decide)]
  simp [cur, lost, bestD, stepD, selB]
theorem acc20 : devices_Accepts.f two 0 txt (Cod.sgE 2 txt) (Cod.sgS 2 txt) 20 0 = some (4, true, 0) := by
  have h := verify_sign 2 txt (by decide) (by decide)
  rw [pow_42] at h
  rw [acc_f _ _ _ _ _ _ _ (by simp [txt]), cur_two20, if_pos ⟨rfl, rfl, h⟩]
theorem acc9 : devices_Accepts.f two 0 txt (Cod.sgE 2 txt) (Cod.sgS 2 txt) 9 0 = some (0, false, 0) := by
  rw [acc_f _ _ _ _ _ _ _ (by simp [txt]), cur_two9, if_neg (fun h => by cases h.2.1)]
theorem s_acc20 (A A2 : Option Addr) (W : World) (hLd : Sha.Laid W) (hC : Kd.C k65 W A 2 two) (hC2 : Kd.C (Kd.int .u8) W A2 4 txt) : Calls Tryd.prog 49 #[.slice A 2 2, .int .i64 0, .slice A2 4 4, .agg #[.int .i64 (Cod.sgE 2 txt), .int .i64 (Cod.sgS 2 txt)], .int .i64 20, .int .i64 0] W fun e w' => e = .returned (.tuple #[.int .i64 4, .bool true, .int .i64 0]) ∧ Below W.heap.size W w' :=
  devices_Accepts.calls A 2 two 0 A2 4 txt _ _ 20 0 _ _ _ W hLd hC (by decide) hC2 (by decide) acc20
theorem s_acc9 (A A2 : Option Addr) (W : World) (hLd : Sha.Laid W) (hC : Kd.C k65 W A 2 two) (hC2 : Kd.C (Kd.int .u8) W A2 4 txt) : Calls Tryd.prog 49 #[.slice A 2 2, .int .i64 0, .slice A2 4 4, .agg #[.int .i64 (Cod.sgE 2 txt), .int .i64 (Cod.sgS 2 txt)], .int .i64 9, .int .i64 0] W fun e w' => e = .returned (.tuple #[.int .i64 0, .bool false, .int .i64 0]) ∧ Below W.heap.size W w' :=
  devices_Accepts.calls A 2 two 0 A2 4 txt _ _ 9 0 _ _ _ W hLd hC (by decide) hC2 (by decide) acc9
theorem is_none {l : List S65} {t : Int} (h1 : (devices_current.v l 0 t 0).2.1 = false) (h2 : (devices_current.v l 0 t 0).2.2 = 0) : signatorylaw48_is.f l t [] = some true := by
  unfold signatorylaw48_is.f
  rw [cur_f, h1, h2]
  simp
theorem is_some {l : List S65} {t a b : Int} (h1 : (devices_current.v l 0 t 0).2.1 = true) (h2 : (devices_current.v l 0 t 0).2.2 = 0) (h3 : (devices_current.v l 0 t 0).1.f0 = a) (h4 : (devices_current.v l 0 t 0).1.f4 = b) : signatorylaw48_is.f l t [a, b] = some true := by
  unfold signatorylaw48_is.f
  rw [cur_f, h1, h2, h3, h4]
  simp [rd]
theorem s_is0 (W : World) : Calls Tryd.prog 73 #[.slice none 0 0, .int .i64 0, .slice none 0 0] W fun e w' => e = .returned (.bool true) ∧ Below W.heap.size W w' :=
  signatorylaw48_is.calls none 0 [] 0 none 0 [] true W (Kd.C_nil _ _) (Nat.le_refl _) (Kd.C_nil _ _) (Nat.le_refl _) (is_none (by rw [cur_nil0]) (by rw [cur_nil0]))
theorem s_is9 (A : Option Addr) (W : World) (hC : Kd.C k65 W A 2 two) : Calls Tryd.prog 73 #[.slice A 2 2, .int .i64 9, .slice none 0 0] W fun e w' => e = .returned (.bool true) ∧ Below W.heap.size W w' :=
  signatorylaw48_is.calls A 2 two 9 none 0 [] true W hC (by decide) (Kd.C_nil _ _) (Nat.le_refl _) (is_none (by rw [cur_two9]) (by rw [cur_two9]))
theorem s_is19 (A A2 : Option Addr) (W : World) (hC : Kd.C k65 W A 2 two) (hC2 : Kd.C (Kd.int .i64) W A2 2 [3, 4]) : Calls Tryd.prog 73 #[.slice A 2 2, .int .i64 19, .slice A2 2 2] W fun e w' => e = .returned (.bool true) ∧ Below W.heap.size W w' :=
  signatorylaw48_is.calls A 2 two 19 A2 2 [3, 4] true W hC (by decide) hC2 (by decide) (is_some (by rw [cur_two19]) (by rw [cur_two19]) (by rw [cur_two19]) (by rw [cur_two19]))
theorem s_is20 (A A2 : Option Addr) (W : World) (hC : Kd.C k65 W A 2 two) (hC2 : Kd.C (Kd.int .i64) W A2 2 [4, 16]) : Calls Tryd.prog 73 #[.slice A 2 2, .int .i64 20, .slice A2 2 2] W fun e w' => e = .returned (.bool true) ∧ Below W.heap.size W w' :=
  signatorylaw48_is.calls A 2 two 20 A2 2 [4, 16] true W hC (by decide) hC2 (by decide) (is_some (by rw [cur_two20]) (by rw [cur_two20]) (by rw [cur_two20]) (by rw [cur_two20]))
theorem s_is29 (A A2 : Option Addr) (c : Nat) (W : World) (hC : Kd.C k65 W A 3 lost) (hc : 3 ≤ c) (hC2 : Kd.C (Kd.int .i64) W A2 2 [4, 16]) : Calls Tryd.prog 73 #[.slice A 3 c, .int .i64 29, .slice A2 2 2] W fun e w' => e = .returned (.bool true) ∧ Below W.heap.size W w' :=
  signatorylaw48_is.calls A c lost 29 A2 2 [4, 16] true W hC hc hC2 (by decide) (is_some (by rw [cur_lost29]) (by rw [cur_lost29]) (by rw [cur_lost29]) (by rw [cur_lost29]))
theorem s_is30 (A : Option Addr) (c : Nat) (W : World) (hC : Kd.C k65 W A 3 lost) (hc : 3 ≤ c) : Calls Tryd.prog 73 #[.slice A 3 c, .int .i64 30, .slice none 0 0] W fun e w' => e = .returned (.bool true) ∧ Below W.heap.size W w' :=
  signatorylaw48_is.calls A c lost 30 none 0 [] true W hC hc (Kd.C_nil _ _) (Nat.le_refl _) (is_none (by rw [cur_lost30]) (by rw [cur_lost30]))
theorem s_chk0 (A : Option Addr) (W : World) (hC : Kd.C k65 W A 2 two) : Calls Tryd.prog 44 #[.slice A 2 2] W fun e w' => e = .returned (.int .i64 0) ∧ Below W.heap.size W w' := by
  have := check_c two A 2 W hC
  rw [chk_two] at this
  exact this
theorem s_chk1 (A : Option Addr) (W : World) (hC : Kd.C k65 W A 1 [⟨0, 0, 0, 0, 1, false⟩]) : Calls Tryd.prog 44 #[.slice A 1 1] W fun e w' => e = .returned (.int .i64 480) ∧ Below W.heap.size W w' := by
  have := check_c [⟨0, 0, 0, 0, 1, false⟩] A 1 W hC
  rw [show chk [⟨0, 0, 0, 0, 1, false⟩] = 480 by simp [chk, chkG, rightD]] at this
  exact this
theorem s_chk2 (A : Option Addr) (W : World) (hC : Kd.C k65 W A 2 [⟨0, 0, 0, 0, 4, false⟩, ⟨1, 0, 0, 1, 4, false⟩]) : Calls Tryd.prog 44 #[.slice A 2 2] W fun e w' => e = .returned (.int .i64 480) ∧ Below W.heap.size W w' := by
  have := check_c [⟨0, 0, 0, 0, 4, false⟩, ⟨1, 0, 0, 1, 4, false⟩] A 2 W hC
  rw [show chk [⟨0, 0, 0, 0, 4, false⟩, ⟨1, 0, 0, 1, 4, false⟩] = 480 by simp [chk, chkG, rightD, inB, v4, usedB]] at this
  exact this
theorem below_two {W w1 : World} {A : Option Addr} (h : Kd.C k65 W A 2 two) (hb : Below W.heap.size W w1) : Kd.C k65 w1 A 2 two := Kd.C_below h hb
set_option maxHeartbeats 4000000 in
set_option maxRecDepth 100000 in
theorem sane_walk (w : World) (hLd : Sha.Laid w) : Calls Tryd.prog 40 #[] w fun e w' => e = .returned (.bool true) ∧ Below w.heap.size w w' := by
  have HL := Lib.hid hLd
  have HS := Lib.hid s_sign
  have HA20 := Lib.hid s_acc20
  have HA9 := Lib.hid s_acc9
  generalize Cod.sgE 2 txt = E at HS HA20 HA9
  generalize Cod.sgS 2 txt = S at HS HA20 HA9
  clear hLd
  have kc := fun (w : World) (C : Array Value) (n c : Nat) => Lib.run_convert_bytes_const (P := Tryd.prog) w 22 5 C n c Tryd.underlying22 Tryd.underlying5
  go_enter Tryd.func40, Tryd.ntmps40
  go_wp2_with fail
  refine (s_add1 _ _ (two_C w)).mono ?_
  rintro e w1 ⟨A3, c3, rfl, hc3, hC3, hb⟩
  have HC := Lib.hid (below_two (two_C w) hb)
  have HC3 := Lib.hid hC3
  have Hc3 := Lib.hid hc3
  have HB := Lib.hid (below_step (below_alloc (Below.refl _ w) _) hb)
  clear hb hC3 hc3
  go_wp2_with fail
  refine (s_add2 _ _ HC.out).mono ?_
  rintro e w2 ⟨v5, rfl, hb⟩
  replace HC := Lib.hid (below_two HC.out hb)
  replace HC3 := Lib.hid (Kd.C_below HC3.out hb)
  replace HB := Lib.hid (below_step HB.out hb)
  clear hb
  go_wp2_with fail
  refine (s_add3 _ _ HC.out).mono ?_
  rintro e w3 ⟨v7, rfl, hb⟩
  replace HC := Lib.hid (below_two HC.out hb)
  replace HC3 := Lib.hid (Kd.C_below HC3.out hb)
  replace HB := Lib.hid (below_step HB.out hb)
  clear hb
  go_wp2_with fail
  refine (s_add4 _ _ HC.out).mono ?_
  rintro e w4 ⟨v9, rfl, hb⟩
  replace HC := Lib.hid (below_two HC.out hb)
  replace HC3 := Lib.hid (Kd.C_below HC3.out hb)
  replace HB := Lib.hid (below_step HB.out hb)
  clear hb
  go_wp2_with fail
  refine (s_cur _).mono ?_
  rintro e w5 ⟨rfl, hb⟩
  replace HC := Lib.hid (below_two HC.out hb)
  replace HC3 := Lib.hid (Kd.C_below HC3.out hb)
  replace HB := Lib.hid (below_step HB.out hb)
  clear hb
  go_wp2_with fail
  refine (HS.out _ _ (Cod.Laid.below HL.out (below_alloc HB.out _)) (txt_C w5 _)).mono ?_
  rintro e w6 ⟨rfl, hb⟩
  replace HC := Lib.hid (below_two (Kd.C_alloc HC.out _) hb)
  replace HC3 := Lib.hid (Kd.C_below (Kd.C_alloc HC3.out _) hb)
  replace HB := Lib.hid (below_step (below_alloc HB.out _) hb)
  clear hb HS
  have kc6 := fun (C : Array Value) (n c : Nat) => Lib.run_convert_bytes_const (P := Tryd.prog) (w6.alloc (.cells #[.int .i64 E, .int .i64 S] 73)) 22 5 C n c Tryd.underlying22 Tryd.underlying5
  have hC6 := txt_C (w6.alloc (.cells #[.int .i64 E, .int .i64 S] 73)) (4, 4 + 1)
  rw [World.size_alloc] at kc6 hC6
  have HC6 := Lib.hid hC6
  have BK6 := Lib.hid (blk_alloc (blk_new w6 (.cells #[.int .i64 E, .int .i64 S] 73)) (.cells #[.int .u8 116, .int .u8 101, .int .u8 120, .int .u8 116] 5 (4, 4 + 1)))
  clear hC6
  go_wp2_with fail
  refine (HA20.out _ _ _ (Cod.Laid.below HL.out (below_alloc (below_alloc HB.out _) _)) (Kd.C_alloc (Kd.C_alloc HC.out _) _) HC6.out).mono ?_
  rintro e w7 ⟨rfl, hb⟩
  replace HC := Lib.hid (below_two (Kd.C_alloc (Kd.C_alloc HC.out _) _) hb)
  replace HC3 := Lib.hid (Kd.C_below (Kd.C_alloc (Kd.C_alloc HC3.out _) _) hb)
  replace HB := Lib.hid (below_step (below_alloc (below_alloc HB.out _) _) hb)
  have BK7 := Lib.hid (blk_below BK6.out hb)
  have q0 : w7.cell? ⟨w6.heap.size, 0, none⟩ = some (.int .i64 E) := (blk_cell BK7.out 0).trans rfl
  have q1 : w7.cell? ⟨w6.heap.size, 1, none⟩ = some (.int .i64 S) := (blk_cell BK7.out 1).trans rfl
  have hlt : w6.heap.size < w7.heap.size := blk_lt BK7.out
  have hne : ¬ w6.heap.size = w7.heap.size := by omega
  clear hb HA20 kc6 HC6 BK6
  go_wp2_with fail
  refine (HA9.out _ _ _ (Cod.Laid.below HL.out (below_alloc HB.out _)) (Kd.C_alloc HC.out _) (txt_C w7 _)).mono ?_
  rintro e w8 ⟨rfl, hb⟩
  replace HC := Lib.hid (below_two (Kd.C_alloc HC.out _) hb)
  replace HC3 := Lib.hid (Kd.C_below (Kd.C_alloc HC3.out _) hb)
  replace HB := Lib.hid (below_step (below_alloc HB.out _) hb)
  clear hb HA9 q0 q1 hlt hne BK7
  go_wp2_with fail
  refine (s_is0 _).mono ?_
  rintro e w9 ⟨rfl, hb⟩
  replace HC := Lib.hid (below_two HC.out hb)
  replace HC3 := Lib.hid (Kd.C_below HC3.out hb)
  replace HB := Lib.hid (below_step HB.out hb)
  clear hb
  go_wp2_with fail
  refine (s_is9 _ _ HC.out).mono ?_
  rintro e w10 ⟨rfl, hb⟩
  replace HC := Lib.hid (below_two HC.out hb)
  replace HC3 := Lib.hid (Kd.C_below HC3.out hb)
  replace HB := Lib.hid (below_step HB.out hb)
  clear hb
  go_wp2_with fail
  refine (s_is19 _ _ _ (Kd.C_alloc HC.out _) (ab_C w10 3 4)).mono ?_
  rintro e w11 ⟨rfl, hb⟩
  replace HC := Lib.hid (below_two (Kd.C_alloc HC.out _) hb)
  replace HC3 := Lib.hid (Kd.C_below (Kd.C_alloc HC3.out _) hb)
  replace HB := Lib.hid (below_step (below_alloc HB.out _) hb)
  clear hb
  go_wp2_with fail
  refine (s_is20 _ _ _ (Kd.C_alloc HC.out _) (ab_C w11 4 16)).mono ?_
  rintro e w12 ⟨rfl, hb⟩
  replace HC := Lib.hid (below_two (Kd.C_alloc HC.out _) hb)
  replace HC3 := Lib.hid (Kd.C_below (Kd.C_alloc HC3.out _) hb)
  replace HB := Lib.hid (below_step (below_alloc HB.out _) hb)
  clear hb
  go_wp2_with fail
  refine (s_is29 _ _ _ _ (Kd.C_alloc HC3.out _) Hc3.out (ab_C w12 4 16)).mono ?_
  rintro e w13 ⟨rfl, hb⟩
  replace HC := Lib.hid (below_two (Kd.C_alloc HC.out _) hb)
  replace HC3 := Lib.hid (Kd.C_below (Kd.C_alloc HC3.out _) hb)
  replace HB := Lib.hid (below_step (below_alloc HB.out _) hb)
  clear hb
  go_wp2_with fail
  refine (s_is30 _ _ _ HC3.out Hc3.out).mono ?_
  rintro e w14 ⟨rfl, hb⟩
  replace HC := Lib.hid (below_two HC.out hb)
  replace HB := Lib.hid (below_step HB.out hb)
  clear hb
  go_wp2_with fail
  refine (s_chk0 _ _ HC.out).mono ?_
  rintro e w15 ⟨rfl, hb⟩
  replace HB := Lib.hid (below_step HB.out hb)
  clear hb
  go_wp2_with fail
  refine (s_chk1 _ _ (one_C w15)).mono ?_
  rintro e w16 ⟨rfl, hb⟩
  replace HB := Lib.hid (below_step (below_alloc HB.out _) hb)
  clear hb
  go_wp2_with fail
  refine (s_chk2 _ _ (pair_C w16)).mono ?_
  rintro e w17 ⟨rfl, hb⟩
  replace HB := Lib.hid (below_step (below_alloc HB.out _) hb)
  clear hb
  go_wp2
  go_ret
  exact ⟨rfl, HB.out⟩
theorem sane_ev : Ev (fun k => signatorylaw48_sane.f k) true := by
  have i0 : signatorylaw48_is.f [] 0 [] = some true := is_none (by rw [cur_nil0]) (by rw [cur_nil0])
  have i9 : signatorylaw48_is.f two 9 [] = some true := is_none (by rw [cur_two9]) (by rw [cur_two9])
  have i19 : signatorylaw48_is.f two 19 [3, 4] = some true := is_some (by rw [cur_two19]) (by rw [cur_two19]) (by rw [cur_two19]) (by rw [cur_two19])
  have i20 : signatorylaw48_is.f two 20 [4, 16] = some true := is_some (by rw [cur_two20]) (by rw [cur_two20]) (by rw [cur_two20]) (by rw [cur_two20])
  have i29 : signatorylaw48_is.f lost 29 [4, 16] = some true := is_some (by rw [cur_lost29]) (by rw [cur_lost29]) (by rw [cur_lost29]) (by rw [cur_lost29])
  have i30 : signatorylaw48_is.f lost 30 [] = some true := is_none (by rw [cur_lost30]) (by rw [cur_lost30])
  have c0 : devices_Check.f two = some 0 := by unfold devices_Check.f; rw [chk_two]
  have c1 : devices_Check.f [⟨0, 0, 0, 0, 1, false⟩] = some 480 := by unfold devices_Check.f; rw [show chk [⟨0, 0, 0, 0, 1, false⟩] = 480 by simp [chk, chkG, rightD]]
  have c2 : devices_Check.f [⟨0, 0, 0, 0, 4, false⟩, ⟨1, 0, 0, 1, 4, false⟩] = some 480 := by unfold devices_Check.f; rw [show chk [⟨0, 0, 0, 0, 4, false⟩, ⟨1, 0, 0, 1, 4, false⟩] = 480 by simp [chk, chkG, rightD, inB, v4, usedB]]
  refine ⟨1, fun k hk => ?_⟩
  obtain ⟨k, rfl⟩ : ∃ m, k = m + 1 := ⟨k - 1, by omega⟩
  show signatorylaw48_sane.f (k + 1) = some true
  unfold signatorylaw48_sane.f
  rw [Option.bind_some]
  have e2 : ([(⟨3, 10, 0, 0, 4, false⟩ : S65), (⟨4, 20, 0, 0, 16, false⟩ : S65)] : List S65) = two := rfl
  have e3 : ([116, 101, 120, 116] : List Int) = txt := rfl
  rw [e2, e3, add1, Option.bind_some, add2, Option.bind_some, add3, Option.bind_some, add4, Option.bind_some, cur1, Option.bind_some, sgn, Option.bind_some, acc20, Option.bind_some, acc9, Option.bind_some]
  rw [if_pos rfl, if_pos rfl, if_pos rfl, if_pos rfl, if_pos rfl, if_pos rfl, if_pos rfl, if_pos rfl, if_pos (show ((lost.length : Nat) : Int) = 3 from rfl), if_pos rfl, if_pos rfl, signatorylaw48_sane.j0, if_neg (by decide), i0, Option.bind_some, if_pos rfl, i9, Option.bind_some, if_pos rfl, i19, Option.bind_some, if_pos rfl, i20, Option.bind_some, if_pos rfl, i29, Option.bind_some, if_pos rfl, i30, Option.bind_some, if_pos rfl, c0, Option.bind_some, if_pos rfl, c1, Option.bind_some, if_pos rfl, c2, Option.bind_some]
  rfl
end Go.Proofs.YtjbcfdgnafmbkaaDoor.Dev
namespace Go.Proofs.YtjbcfdgnafmbkaaDoor.PBig
open Go.RowKit Go.Proofs.YtjbcfdgnafmbkaaDoor Go.Proofs.YtjbcfdgnafmbkaaDoorW.PrintWords
theorem signatorylaw48_sane.calls (k : Nat) (r : Bool) (w : World) (hLd : Sha.Laid w) (h : signatorylaw48_sane.f k = some r) :
    Calls Tryd.prog 40 #[] w fun e w' => e = .returned (.bool r) ∧ Below w.heap.size w w' := by
  obtain ⟨K, hK⟩ := Dev.sane_ev
  have h1 := hK (max K k) (by omega)
  have h2 := at_rounds (g := fun k => signatorylaw48_sane.f k) (fun k => signatorylaw48_sane.mono k) (show k ≤ max K k by omega) h
  obtain rfl := Option.some.inj (h2.symm.trans h1)
  exact Dev.sane_walk w hLd
end Go.Proofs.YtjbcfdgnafmbkaaDoor.PBig
end
section
set_option linter.unusedVariables false
namespace Go.Proofs.YtjbcfdgnafmbkaaDoor.Dev
open Go.RowKit Go.Proofs.YtjbcfdgnafmbkaaDoor Go.Proofs.YtjbcfdgnafmbkaaDoorW.PrintWords Go.Proofs.YtjbcfdgnafmbkaaDoorW.PrintLast Go.Proofs.YtjbcfdgnafmbkaaDoor.PBig
def timesB (ts : List Int) : Bool := ts.all (fun t => inB t 1099511627775)
def rightL (l : List S65) (p : Int) (ts : List Int) : Bool := timesB ts && (decide (l.length ≤ 20) && (decide (chk l = 0) && inB p 63))
theorem law_right_l (l : List S65) (p : Int) (ts : List Int) (ht : ts.length ≤ 100) : ∀ n i, i + n = ts.length → Ev (fun k => signatorylaw48_right.l0 k l p ts (ts.length : Int) (i : Int)) (rightL l p (ts.drop i))
  | 0, i, h => by
    refine Ev.step (fun k => by rw [signatorylaw48_right.l0]) (ev_neg (by omega) ?_)
    rw [List.drop_of_length_le (by omega)]
    unfold rightL timesB
    rw [List.all_nil, Bool.true_and]
    by_cases h1 : l.length ≤ 20
    · refine ev_pos (by omega) (Ev.bind (ref_check l) ?_)
      rw [decide_eq_true h1, Bool.true_and]
      by_cases h2 : chk l = 0
      · refine ev_pos h2 ?_
        rw [decide_eq_true h2, Bool.true_and, person_f]
        exact ev_id _ rfl
      · refine ev_neg h2 (ev_id _ ?_)
        rw [decide_eq_false h2]; rfl
    · refine ev_neg (by omega) (ev_id _ ?_)
      rw [decide_eq_false h1]; rfl
  | n + 1, i, h => by
    have ih := law_right_l l p ts ht n (i + 1) (by omega)
    have hi : i < ts.length := by omega
    refine Ev.step (fun k => by rw [signatorylaw48_right.l0]) (ev_pos (by omega) (ev_pos (by omega) (ev_pos (by omega) ?_)))
    have hr : rd ts (i : Int) = ts[i] := by
      unfold rd; rw [Int.toNat_natCast, List.getD_eq_getElem?_getD, List.getElem?_eq_getElem hi]; rfl
    have hw : wrap64 ((i : Int) + 1) = ((i + 1 : Nat) : Int) := by rw [wrap_small (by omega) (by omega)]; omega
    rw [hr, hw, time_f, List.drop_eq_getElem_cons hi]
    simp only [Option.bind_some]
    unfold rightL timesB at ih ⊢
    rw [List.all_cons]
    cases inB ts[i] 1099511627775 with
    | true => exact ev_pos rfl (by rw [Bool.true_and]; exact ih)
    | false => exact ev_neg (by decide) (ev_id _ (by rw [Bool.false_and]; rfl))
theorem law_right (l : List S65) (p : Int) (ts : List Int) (ht : ts.length ≤ 100) : Ev (fun k => signatorylaw48_right.f k l p ts) (rightL l p ts) := by
  have := law_right_l l p ts ht ts.length 0 (by omega)
  rw [List.drop_zero] at this
  exact this
theorem rightL_true {l : List S65} {p : Int} {ts : List Int} (h : rightL l p ts = true) : (∀ t ∈ ts, inB t 1099511627775 = true) ∧ l.length ≤ 20 ∧ chk l = 0 ∧ inB p 63 = true := by
  unfold rightL timesB at h
  simp only [Bool.and_eq_true, decide_eq_true_eq, List.all_eq_true] at h
  exact h
theorem argB_mk {p t k : Int} (h1 : inB p 63 = true) (h2 : inB t 1099511627775 = true) (h3 : inB k 1099511627775 = true) : argB p t k = true := by unfold argB; rw [h1, h2, h3]; rfl
def okD (l : List S65) (p t k : Int) : Bool := (cur l p t k).2 && !(cur l p t k).1.f5
def curT (l : List S65) (p t k : Int) : Int × Int × Bool × Int := if okD l p t k = true then ((cur l p t k).1.f0, (cur l p t k).1.f4, true, 0) else (0, 0, false, 0)
theorem cur_g {l : List S65} {p t k : Int} (h : chk l = 0) (ha : argB p t k = true) : devices_Current.f l p t k = some (curT l p t k) := by
  rw [cur_f, curv_ok h ha]
  unfold curT
  change some (if (0 : Int) = 0 ∧ okD l p t k = true then _ else _) = _
  cases okD l p t k with
  | true => rw [if_pos ⟨rfl, rfl⟩, if_pos rfl]
  | false => rw [if_neg (fun h => by cases h.2), if_neg (by decide)]
def accT (l : List S65) (p : Int) (b : List Int) (e s t k : Int) : Int × Bool × Int := if okD l p t k = true ∧ Cod.vfB (cur l p t k).1.f4 b e s = true then ((cur l p t k).1.f0, true, 0) else (0, false, 0)
theorem acc_g {l : List S65} {p t k : Int} (b : List Int) (e s : Int) (hb : b.length ≤ 1048576) (h : chk l = 0) (ha : argB p t k = true) : devices_Accepts.f l p b e s t k = some (accT l p b e s t k) := by
  rw [acc_f _ _ _ _ _ _ _ hb, curv_ok h ha]
  unfold accT
  by_cases hc : okD l p t k = true ∧ Cod.vfB (cur l p t k).1.f4 b e s = true
  · rw [if_pos hc]
    exact congrArg some (if_pos (c := (0 : Int) = 0 ∧ okD l p t k = true ∧ Cod.vfB (cur l p t k).1.f4 b e s = true) ⟨rfl, hc.1, hc.2⟩)
  · rw [if_neg hc]
    exact congrArg some (if_neg (c := (0 : Int) = 0 ∧ okD l p t k = true ∧ Cod.vfB (cur l p t k).1.f4 b e s = true) (fun h => hc h.2))
theorem okD_true {l : List S65} (hG : Good l) {p t k : Int} (h : okD l p t k = true) : (cur l p t k).1 ∈ l ∧ selB p t k (cur l p t k).1 = true ∧ (cur l p t k).1.f5 = false ∧ ∀ y ∈ l, selB p t k y = true → leD y (cur l p t k).1 := by
  unfold okD at h
  rw [Bool.and_eq_true, Bool.not_eq_true'] at h
  rcases cur_or hG p t k with h0 | ⟨h1, h2, h3, h4⟩
  · rw [h0] at h; cases h.1
  · exact ⟨h2, h3, h.2, h4⟩
end Go.Proofs.YtjbcfdgnafmbkaaDoor.Dev
end
