/- The walk of the law GroupHash. -/
import Derived.Test.YtjbcfdgnafmbkaaDoorSha7
import Derived.Test.YtjbcfdgnafmbkaaDoorGroupFnsD
set_option linter.unusedVariables false
namespace Go.Proofs.YtjbcfdgnafmbkaaDoor.Sha
open Go.RowKit Go.Proofs.YtjbcfdgnafmbkaaDoor Go.Proofs.YtjbcfdgnafmbkaaDoorW.PrintWords Go.Proofs.YtjbcfdgnafmbkaaDoor.PGroup
theorem sane_c (w : World) : Calls Tryd.prog 15 #[] w fun e w' => e = .returned (.bool true) ∧ Below w.heap.size w w' :=
  signatorylaw10_sane.calls 2 true w sane_f
theorem grown_of_below {A B : World} (h : Below A.heap.size A B) : A.grownBy B none := ⟨h.os, h.tape, h.output, h.size, fun k hk _ => h.block k hk⟩
theorem below_of_grown' {A B : World} (h : A.grownBy B none) : Below A.heap.size A B := ⟨h.os, h.tape, h.output, h.size, fun k hk => h.block k hk (by simp)⟩
/-- The remainder that the law reckons: byte after byte. -/
def remN (d : List Nat) : Nat → Nat
  | 0 => 0
  | i + 1 => (remN d i * 256 + (if i = 0 then d.getD 0 0 % 128 else d.getD i 0)) % 1073741789
theorem mod_step (a x : Nat) : (a % 1073741789 * 256 + x) % 1073741789 = (a * 256 + x) % 1073741789 := by omega
theorem remN_one (d : List Nat) : remN d 1 = d.getD 0 0 % 128 % 1073741789 := by
  rw [remN, remN, if_pos rfl, Nat.zero_mul, Nat.zero_add]
theorem remN_succ (d : List Nat) (i : Nat) (h : i ≠ 0) : remN d (i + 1) = (remN d i * 256 + d.getD i 0) % 1073741789 := by
  rw [remN, if_neg h]
theorem remN_8 (d : List Nat) : remN d 8 = num8 d % 1073741789 := by
  rw [remN_succ d 7 (by decide), remN_succ d 6 (by decide), remN_succ d 5 (by decide), remN_succ d 4 (by decide), remN_succ d 3 (by decide), remN_succ d 2 (by decide), remN_succ d 1 (by decide), remN_one]
  simp only [mod_step, num8]
theorem remN_lt (d : List Nat) : ∀ i, remN d i < 1073741789
  | 0 => by unfold remN; decide
  | i + 1 => Nat.mod_lt _ (by decide)
theorem rem_first (x : Nat) (h : x < 256) : Int.tmod (x : Int) 128 = ((x % 128 : Nat) : Int) ∧ wrap64 ((x % 128 : Nat) : Int) = ((x % 128 : Nat) : Int) ∧ Int.tmod ((x % 128 : Nat) : Int) 1073741789 = ((x % 128 % 1073741789 : Nat) : Int) := by
  refine ⟨?_, ?_, ?_⟩
  · rw [Int.tmod_eq_emod_of_nonneg (by omega)]; omega
  · unfold wrap64; omega
  · rw [Int.tmod_eq_emod_of_nonneg (by omega)]; omega
theorem rem_step (r x : Nat) (hr : r < 1073741789) (hx : x < 256) : wrap64 ((r : Int) * 256) = (r : Int) * 256 ∧ wrap64 ((r : Int) * 256 + x) = (r : Int) * 256 + x ∧ Int.tmod ((r : Int) * 256 + x) 1073741789 = (((r * 256 + x) % 1073741789 : Nat) : Int) := by
  refine ⟨?_, ?_, ?_⟩
  · unfold wrap64; omega
  · unfold wrap64; omega
  · rw [Int.tmod_eq_emod_of_nonneg (by omega)]; omega
theorem hash_law_big (tag : ByteArray) (A : Option Addr) (n c : Nat) (w : World) (h : 2000 < n ∨ 200 < tag.size) :
    Calls Tryd.prog 4 #[.string tag, .slice A n c] w fun e w' => e = .returned (.bool true) ∧ Below w.heap.size w w' := by
  go_enter Tryd.func4, Tryd.ntmps4
  by_cases h1 : 2000 < n
  · have t1 : decide ((2000 : Int) < (n : Int)) = true := decide_eq_true (by omega)
    clear h
    go_wp2_with fail
    refine (sane_c w).mono ?_
    rintro e w1 ⟨rfl, hb⟩
    go_wp2
    go_ret
    exact ⟨rfl, hb⟩
  · have t1 : decide ((2000 : Int) < (n : Int)) = false := decide_eq_false (by omega)
    have t2 : decide ((200 : Int) < (tag.size : Int)) = true := decide_eq_true (by omega)
    clear h
    go_wp2_with fail
    refine (sane_c w).mono ?_
    rintro e w1 ⟨rfl, hb⟩
    go_wp2
    go_ret
    exact ⟨rfl, hb⟩
set_option maxHeartbeats 400000 in
set_option maxRecDepth 100000 in
theorem hash_law (tag : ByteArray) (A : Option Addr) (cap : Nat) (l : List Nat) (w : World) (hC : Kd.C (Kd.int .u8) w A l.length (toI l)) (hl : ∀ x ∈ l, x < 256) (hs1 : tag.size ≤ 200) (hs2 : l.length ≤ 2000) (hL : Laid w) (h2 : 2 ≤ w.heap.size) :
    Calls Tryd.prog 4 #[.string tag, .slice A l.length cap] w fun e w' => e = .returned (.bool true) ∧ Below w.heap.size w w' := by
  have t1 : decide ((2000 : Int) < (l.length : Int)) = false := decide_eq_false (by omega)
  have t2 : decide ((200 : Int) < (tag.size : Int)) = false := decide_eq_false (by omega)
  have HC := Lib.hid hC
  have HL := Lib.hid hL
  have HB := Lib.hid hl
  have HS1 := Lib.hid hs1
  have HS2 := Lib.hid hs2
  clear hC hL hl hs1 hs2
  go_enter Tryd.func4, Tryd.ntmps4
  go_wp2_with fail
  refine (sane_c w).mono ?_
  rintro e w1 ⟨rfl, hb1⟩
  have hg1 := grown_of_below hb1
  have hz1 := hg1.size
  have hh := hash_c tag A cap l w1 (Kd.C_below HC.out hb1) HB.out (by have := HS1.out; omega) (by have := HS2.out; omega) (HL.out.grown hg1 (by simp)) (by omega)
  have HH := Lib.hid hh
  have HG1 := Lib.hid hg1
  clear hb1 hg1 hh
  go_wp2_with fail
  refine HH.out.mono ?_
  rintro e w2 ⟨rfl, hg2⟩
  have hg3 := grownBy_trans HG1.out hg2
  have hz2 := hg3.size
  have hh := tagged_c tag A cap l w2 (Kd.C_below HC.out (below_of_grown' hg3)) HB.out (by have := HS1.out; omega) (by have := HS2.out; omega) (HL.out.grown hg3 (by simp)) (by omega)
  have HT := Lib.hid hh
  have HG3 := Lib.hid hg3
  clear hg2 hg3 hh HH HG1
  go_wp2_with fail
  refine HT.out.mono ?_
  rintro e w3 ⟨rfl, hg4⟩
  have hg5 := grownBy_trans HG3.out hg4
  have hR : Hid (hashN (strL tag) l = num8 (tagged (strL tag) l) % 1073741789) := Lib.hid rfl
  have hdl := tagged_length (strL tag) l
  have hdb := tagged_lt (strL tag) l
  generalize hashN (strL tag) l = R at *
  generalize tagged (strL tag) l = D at *
  clear HT HG3 hg4 t1 t2 HC HL HB HS1 HS2
  have hvz : (Tryd.prog.info? 30).map (·.size) = some (ints .u8 D).toArray.size := by rw [List.size_toArray, ints_length, hdl]; kernel_rfl
  have hvo : (ints .u8 D).toArray.all (·.oneCell') = true := by simp [ints, Value.oneCell']
  have hv32 : (ints .u8 (List.replicate 32 0)).toArray.size = (ints .u8 D).toArray.size := by rw [List.size_toArray, List.size_toArray, ints_length, ints_length, hdl, List.length_replicate]
  have hset := setRow_heap (w3.alloc (.cells (ints .u8 (List.replicate 32 0)).toArray 30)) w3.heap.size (ints .u8 (List.replicate 32 0)).toArray (ints .u8 D).toArray 30 (0, 0) (Arr.new w3 30 (ints .u8 (List.replicate 32 0)))
  have hgf := grown_below (grown_alloc hg5 (.cells (ints .u8 (List.replicate 32 0)).toArray 30)) (below_setRow (Below.refl w.heap.size _) hg5.size (ints .u8 D).toArray) (Nat.le_refl _)
  have HS := Lib.hid hset
  have HG := Lib.hid hgf
  have HVZ := Lib.hid hvz
  have HVO := Lib.hid hvo
  have HV32 := Lib.hid hv32
  have HDL := Lib.hid hdl
  have HDB := Lib.hid hdb
  clear hvz hvo hv32 hset hgf hg5 hdl hdb
  go_wp2_with (refine wpList_store_row rfl 30 (.tmp 6) (.tmp 25) rfl w3.heap.size (ints .u8 D).toArray rfl rfl 30 (ints .u8 (List.replicate 32 0)).toArray (Arr.new w3 30 (ints .u8 (List.replicate 32 0))) HVZ.out HV32.out HVO.out ?_; generalize hW : World.setRow _ _ _ = w4; have hA4 : Arr w4 w3.heap.size 30 (ints .u8 D) := (by rw [← hW]; exact HS.out); have HG4 : Hid (w.grownBy w4 none) := Lib.hid (by rw [← hW]; exact HG.out); clear HS HG hW HVZ HVO HV32)
  have hl := fun j (hj : j < 32) => hA4.cell (ints_get .u8 D (j := j) (by rw [HDL.out]; exact hj))
  have d0 := hl 0 (by decide)
  have d1 := hl 1 (by decide)
  have d2 := hl 2 (by decide)
  have d3 := hl 3 (by decide)
  have d4 := hl 4 (by decide)
  have d5 := hl 5 (by decide)
  have d6 := hl 6 (by decide)
  have d7 := hl 7 (by decide)
  clear hl hA4
  have g0 := getD_lt HDB.out 0
  have g1 := getD_lt HDB.out 1
  have g2 := getD_lt HDB.out 2
  have g3 := getD_lt HDB.out 3
  have g4 := getD_lt HDB.out 4
  have g5 := getD_lt HDB.out 5
  have g6 := getD_lt HDB.out 6
  have g7 := getD_lt HDB.out 7
  have HR : Hid (R = remN D 8) := Lib.hid (by rw [hR.out, remN_8])
  clear hR
  obtain ⟨m0, v0, c1⟩ := rem_first (D.getD 0 0) g0
  rw [← remN_one] at c1
  obtain ⟨u2v, u2w, c2⟩ := rem_step (remN D 1) (D.getD 1 0) (remN_lt D 1) g1
  rw [← remN_succ D 1 (by decide)] at c2
  obtain ⟨u3v, u3w, c3⟩ := rem_step (remN D 2) (D.getD 2 0) (remN_lt D 2) g2
  rw [← remN_succ D 2 (by decide)] at c3
  obtain ⟨u4v, u4w, c4⟩ := rem_step (remN D 3) (D.getD 3 0) (remN_lt D 3) g3
  rw [← remN_succ D 3 (by decide)] at c4
  obtain ⟨u5v, u5w, c5⟩ := rem_step (remN D 4) (D.getD 4 0) (remN_lt D 4) g4
  rw [← remN_succ D 4 (by decide)] at c5
  obtain ⟨u6v, u6w, c6⟩ := rem_step (remN D 5) (D.getD 5 0) (remN_lt D 5) g5
  rw [← remN_succ D 5 (by decide)] at c6
  obtain ⟨u7v, u7w, c7⟩ := rem_step (remN D 6) (D.getD 6 0) (remN_lt D 6) g6
  rw [← remN_succ D 6 (by decide)] at c7
  obtain ⟨u8v, u8w, c8⟩ := rem_step (remN D 7) (D.getD 7 0) (remN_lt D 7) g7
  rw [← remN_succ D 7 (by decide)] at c8
  have s8 := remN_lt D 8
  have f1 : decide ((remN D 8 : Int) < 1073741789) = true := decide_eq_true (by omega)
  generalize remN D 1 = r1 at *
  generalize remN D 2 = r2 at *
  generalize remN D 3 = r3 at *
  generalize remN D 4 = r4 at *
  generalize remN D 5 = r5 at *
  generalize remN D 6 = r6 at *
  generalize remN D 7 = r7 at *
  generalize remN D 8 = r8 at *
  generalize D.getD 0 0 = x0 at *
  generalize D.getD 1 0 = x1 at *
  generalize D.getD 2 0 = x2 at *
  generalize D.getD 3 0 = x3 at *
  generalize D.getD 4 0 = x4 at *
  generalize D.getD 5 0 = x5 at *
  generalize D.getD 6 0 = x6 at *
  generalize D.getD 7 0 = x7 at *
  generalize x0 % 128 = y0 at *
  rw [HR.out]
  have Q1 := Lib.hid (And.intro m0 (And.intro v0 (And.intro c1 (And.intro d0 g0))))
  have Q2 := Lib.hid (And.intro u2v (And.intro u2w (And.intro c2 (And.intro d1 g1))))
  have Q3 := Lib.hid (And.intro u3v (And.intro u3w (And.intro c3 (And.intro d2 g2))))
  have Q4 := Lib.hid (And.intro u4v (And.intro u4w (And.intro c4 (And.intro d3 g3))))
  have Q5 := Lib.hid (And.intro u5v (And.intro u5w (And.intro c5 (And.intro d4 g4))))
  have Q6 := Lib.hid (And.intro u6v (And.intro u6w (And.intro c6 (And.intro d5 g5))))
  have Q7 := Lib.hid (And.intro u7v (And.intro u7w (And.intro c7 (And.intro d6 g6))))
  have Q8 := Lib.hid (And.intro u8v (And.intro u8w (And.intro c8 (And.intro d7 g7))))
  have Q9 := Lib.hid (And.intro f1 s8)
  clear m0 v0 c1 f1 s8 u2v u2w c2 u3v u3w c3 u4v u4w c4 u5v u5w c5 u6v u6w c6 u7v u7w c7 u8v u8w c8 d0 g0 d1 g1 d2 g2 d3 g3 d4 g4 d5 g5 d6 g6 d7 g7
  refine wp_loop_rounds 9 ?_
  rw [rounds_succ]
  obtain ⟨ea, eb, ec, ed, eg⟩ := Q1.out
  go_wp2
  clear ea eb ec ed eg Q1
  rw [rounds_succ]
  obtain ⟨ea, eb, ec, ed, eg⟩ := Q2.out
  go_wp2
  clear ea eb ec ed eg Q2
  rw [rounds_succ]
  obtain ⟨ea, eb, ec, ed, eg⟩ := Q3.out
  go_wp2
  clear ea eb ec ed eg Q3
  rw [rounds_succ]
  obtain ⟨ea, eb, ec, ed, eg⟩ := Q4.out
  go_wp2
  clear ea eb ec ed eg Q4
  rw [rounds_succ]
  obtain ⟨ea, eb, ec, ed, eg⟩ := Q5.out
  go_wp2
  clear ea eb ec ed eg Q5
  rw [rounds_succ]
  obtain ⟨ea, eb, ec, ed, eg⟩ := Q6.out
  go_wp2
  clear ea eb ec ed eg Q6
  rw [rounds_succ]
  obtain ⟨ea, eb, ec, ed, eg⟩ := Q7.out
  go_wp2
  clear ea eb ec ed eg Q7
  rw [rounds_succ]
  obtain ⟨ea, eb, ec, ed, eg⟩ := Q8.out
  go_wp2
  clear ea eb ec ed eg Q8
  rw [rounds_succ]
  obtain ⟨ea, eb⟩ := Q9.out
  go_wp2
  go_ret
  exact ⟨rfl, below_of_grown' HG4.out⟩
end Go.Proofs.YtjbcfdgnafmbkaaDoor.Sha
