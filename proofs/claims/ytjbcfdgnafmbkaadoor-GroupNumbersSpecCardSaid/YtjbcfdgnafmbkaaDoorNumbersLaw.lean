/- The walk of the law GroupNumbersSpec. -/
import Derived.Test.YtjbcfdgnafmbkaaDoorRefSha4
import Derived.Test.YtjbcfdgnafmbkaaDoorHashLaw
set_option linter.unusedVariables false
namespace Go.Proofs.YtjbcfdgnafmbkaaDoor.Sha
open Go.RowKit Go.Proofs.YtjbcfdgnafmbkaaDoor Go.Proofs.YtjbcfdgnafmbkaaDoorW.PrintWords Go.Proofs.YtjbcfdgnafmbkaaDoor.PGroup
def elP (n : Int) : Int × Int := if 1 ≤ n ∧ n ≤ 1073741789 then (elI n, 0) else (0, 1)
def noP (x : Int) : Int × Int := if validB x = true then (noI x, 0) else (0, 100)
theorem el_c (n : Int) (w : World) : Calls Tryd.prog 16 #[.int .i64 n] w fun e w' => e = .returned (.tuple #[.int .i64 (elP n).1, .int .i64 (elP n).2]) ∧ w.grownBy w' none :=
  (group_Element.calls 1 n (elP n).1 (elP n).2 w (element_f 0 n)).mono fun e w' ⟨h1, h2⟩ => ⟨h1, by obtain ⟨m, rfl⟩ := h2.out; exact grownBy_drewN w m none⟩
theorem rel_c (n : Int) (w : World) : Calls Tryd.prog 17 #[.int .i64 n] w fun e w' => e = .returned (.tuple #[.int .i64 (elP n).1, .int .i64 (elP n).2]) ∧ w.grownBy w' none :=
  (signatoryref10_Element.calls 33 n (elP n).1 (elP n).2 w (refelement_f n)).mono fun e w' ⟨h1, h2⟩ => ⟨h1, by obtain ⟨m, rfl⟩ := h2.out; exact grownBy_drewN w m none⟩
theorem no_c (n : Int) (w : World) : Calls Tryd.prog 18 #[.int .i64 n] w fun e w' => e = .returned (.tuple #[.int .i64 (noP n).1, .int .i64 (noP n).2]) ∧ w.grownBy w' none :=
  (group_Number.calls n (noP n).1 (noP n).2 w (number_f n)).mono fun e w' ⟨h1, h2⟩ => ⟨h1, grown_of_below h2⟩
theorem rno_c (n : Int) (w : World) : Calls Tryd.prog 19 #[.int .i64 n] w fun e w' => e = .returned (.tuple #[.int .i64 (noP n).1, .int .i64 (noP n).2]) ∧ w.grownBy w' none :=
  (signatoryref10_Number.calls 32 n (noP n).1 (noP n).2 w (refnumber_f n)).mono fun e w' ⟨h1, h2⟩ => ⟨h1, by obtain ⟨m, rfl⟩ := h2.out; exact grownBy_drewN w m none⟩
theorem numbers_law_big (n0 : Int) (tag : ByteArray) (A : Option Addr) (n c : Nat) (w : World) (h : 2000 < n ∨ 200 < tag.size) :
    Calls Tryd.prog 3 #[.int .i64 n0, .string tag, .slice A n c] w fun e w' => e = .returned (.bool true) ∧ Below w.heap.size w w' := by
  go_enter Tryd.func3, Tryd.ntmps3
  by_cases h1 : 2000 < n
  · have t1 : decide ((2000 : Int) < (n : Int)) = true := decide_eq_true (by omega)
    clear h
    go_wp2_with fail
    refine (sane_c w).mono ?_
    rintro e w1 ⟨rfl, hb⟩
    go_wp2
    go_ret
    exact ⟨rfl, hb⟩
  · have t1 : decide ((2000 : Int) < (n : Int)) = false := decide_eq_false (by omega)
    have t2 : decide ((200 : Int) < (tag.size : Int)) = true := decide_eq_true (by omega)
    clear h
    go_wp2_with fail
    refine (sane_c w).mono ?_
    rintro e w1 ⟨rfl, hb⟩
    go_wp2
    go_ret
    exact ⟨rfl, hb⟩
set_option maxHeartbeats 1000000 in
theorem numbers_law (n0 : Int) (tag : ByteArray) (A : Option Addr) (cap : Nat) (l : List Nat) (w : World) (hC : Kd.C (Kd.int .u8) w A l.length (toI l)) (hl : ∀ x ∈ l, x < 256) (hc0 : l.length ≤ cap) (hs1 : tag.size ≤ 200) (hs2 : l.length ≤ 2000) (hL : Laid w) (h2 : 2 ≤ w.heap.size) :
    Calls Tryd.prog 3 #[.int .i64 n0, .string tag, .slice A l.length cap] w fun e w' => e = .returned (.bool true) ∧ Below w.heap.size w w' := by
  have t1 : decide ((2000 : Int) < (l.length : Int)) = false := decide_eq_false (by omega)
  have t2 : decide ((200 : Int) < (tag.size : Int)) = false := decide_eq_false (by omega)
  have HC := Lib.hid hC
  have HL := Lib.hid hL
  have HB := Lib.hid hl
  have HS1 := Lib.hid hs1
  have HS2 := Lib.hid hs2
  have HC0 := Lib.hid hc0
  clear hC hL hl hs1 hs2 hc0
  go_enter Tryd.func3, Tryd.ntmps3
  go_wp2_with fail
  refine (sane_c w).mono ?_
  rintro e w1 ⟨rfl, hb1⟩
  have HG := Lib.hid (grown_of_below hb1)
  clear hb1
  go_wp2_with fail
  refine (el_c n0 w1).mono ?_
  rintro e w2 ⟨rfl, hg⟩
  have HG1 := Lib.hid (grownBy_trans HG.out hg)
  clear hg HG
  go_wp2_with fail
  refine (rel_c n0 w2).mono ?_
  rintro e w3 ⟨rfl, hg⟩
  have HG2 := Lib.hid (grownBy_trans HG1.out hg)
  clear hg HG1
  go_wp2_with fail
  refine (no_c n0 w3).mono ?_
  rintro e w4 ⟨rfl, hg⟩
  have HG3 := Lib.hid (grownBy_trans HG2.out hg)
  clear hg HG2
  go_wp2_with fail
  refine (rno_c n0 w4).mono ?_
  rintro e w5 ⟨rfl, hg⟩
  have HG4 := Lib.hid (grownBy_trans HG3.out hg)
  have hz := HG4.out.size
  clear hg HG3
  go_wp2_with fail
  refine (hash_c tag A cap l w5 (Kd.C_below HC.out (below_none HG4.out)) HB.out (by have := HS1.out; omega) (by have := HS2.out; omega) (HL.out.grown HG4.out (by simp)) (by omega)).mono ?_
  rintro e w6 ⟨rfl, hg⟩
  have HG5 := Lib.hid (grownBy_trans HG4.out hg)
  clear hg HG4
  go_wp2_with fail
  refine (rhash_c tag A cap l w6 (Kd.C_below HC.out (below_none HG5.out)) HB.out HC0.out (by have := HS1.out; omega) (by have := HS2.out; omega)).mono ?_
  rintro e w7 ⟨rfl, hg⟩
  have HG6 := Lib.hid (grownBy_trans HG5.out hg)
  clear hg HG5
  go_wp2
  go_ret
  exact ⟨rfl, below_none HG6.out⟩
end Go.Proofs.YtjbcfdgnafmbkaaDoor.Sha
