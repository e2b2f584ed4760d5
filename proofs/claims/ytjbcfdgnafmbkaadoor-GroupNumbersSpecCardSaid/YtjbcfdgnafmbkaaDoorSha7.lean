/- group.Hash. -/
import Derived.Test.YtjbcfdgnafmbkaaDoorSha6
set_option linter.unusedVariables false
namespace Go.Proofs.YtjbcfdgnafmbkaaDoor.Sha
open Go.RowKit Go.Proofs.YtjbcfdgnafmbkaaDoor Go.Proofs.YtjbcfdgnafmbkaaDoorW.PrintWords
/-- The number that the first eight bytes are, without the highest bit. -/
def num8 (d : List Nat) : Nat :=
  (((((((d.getD 0 0 % 128 * 256 + d.getD 1 0) * 256 + d.getD 2 0) * 256 + d.getD 3 0) * 256 + d.getD 4 0) * 256 + d.getD 5 0) * 256 + d.getD 6 0) * 256 + d.getD 7 0)
def hashN (tag l : List Nat) : Nat := num8 (tagged tag l) % 1073741789
theorem tagged_length (tag l : List Nat) : (tagged tag l).length = 32 := bytes_length _
theorem tagged_lt (tag l : List Nat) : ∀ x ∈ tagged tag l, x < 256 := bytes_lt _
theorem getD_lt {l : List Nat} (h : ∀ x ∈ l, x < 256) (i : Nat) : l.getD i 0 < 256 := by
  rw [List.getD_eq_getElem?_getD]
  by_cases hi : i < l.length
  · rw [List.getElem?_eq_getElem hi]; exact h _ (List.getElem_mem hi)
  · rw [List.getElem?_eq_none (by omega)]; decide
theorem and127 (x : Nat) (h : x < 256) : bits .and .u8 (x : Int) 127 = ((x % 128 : Nat) : Int) := by
  have := u8_and_nat x 127 h (by decide)
  rw [show ((127 : Nat) : Int) = 127 from rfl] at this
  rw [this, show (127 : Nat) = 2 ^ 7 - 1 from rfl, Nat.and_two_pow_sub_one_eq_mod]
theorem i64_or_nat (a b : Nat) (ha : a < 9223372036854775808) (hb : b < 9223372036854775808) : bits .or .i64 (a : Int) (b : Int) = ((a ||| b : Nat) : Int) := by
  have hx : a ||| b < 2 ^ 63 := Nat.or_lt_two_pow (by omega) (by omega)
  show IntKind.i64.wrap ((BitVec.ofInt 64 (a : Int) ||| BitVec.ofInt 64 (b : Int)).toNat : Int) = _
  rw [BitVec.toNat_or, ofInt_u64 a (by omega), ofInt_u64 b (by omega), IntKind.wrap_i64]
  omega
theorem shl8i (n c : Nat) (hn : n < 36028797018963968) (hc : c < 256) : bits .or .i64 ((n : Int) * 256) c = ((n * 256 + c : Nat) : Int) := by
  have := i64_or_nat (n * 256) c (by omega) (by omega)
  rw [show ((n : Int) * 256) = ((n * 256 : Nat) : Int) by simp, this, show n * 256 ||| c = n * 256 + c from by
    rw [show (256 : Nat) = 2 ^ 8 from rfl, Nat.mul_comm, Nat.two_pow_add_eq_or_of_lt hc]]
set_option maxHeartbeats 1000000 in
set_option maxRecDepth 100000 in
theorem hash_c (tag : ByteArray) (A : Option Addr) (cap : Nat) (l : List Nat) (w : World) (hC : Kd.C (Kd.int .u8) w A l.length (toI l)) (hl : ∀ x ∈ l, x < 256) (hs1 : tag.size ≤ 1099511627776) (hs2 : l.length ≤ 1099511627776) (hL : Laid w) (h2 : 2 ≤ w.heap.size) :
    Calls Tryd.prog 20 #[.string tag, .slice A l.length cap] w fun e w' => e = .returned (.int .i64 (hashN (strL tag) l)) ∧ w.grownBy w' none := by
  have ht := tagged_c tag A cap l w hC hl hs1 hs2 hL h2
  have HT := Lib.hid ht
  clear ht hC hl hL h2
  go_enter Tryd.func20, Tryd.ntmps20
  go_wp2_with fail
  refine HT.out.mono ?_
  rintro e w1 ⟨rfl, hg1⟩
  have HH : Hid (hashN (strL tag) l = num8 (tagged (strL tag) l) % 1073741789) := Lib.hid rfl
  have hdl := tagged_length (strL tag) l
  have hdb := tagged_lt (strL tag) l
  generalize tagged (strL tag) l = D at *
  have hvz : (Tryd.prog.info? 30).map (·.size) = some (ints .u8 D).toArray.size := by rw [List.size_toArray, ints_length, hdl]; kernel_rfl
  have hvo : (ints .u8 D).toArray.all (·.oneCell') = true := by simp [ints, Value.oneCell']
  have hv32 : (ints .u8 (List.replicate 32 0)).toArray.size = (ints .u8 D).toArray.size := by rw [List.size_toArray, List.size_toArray, ints_length, ints_length, hdl, List.length_replicate]
  have hset := setRow_heap (w1.alloc (.cells (ints .u8 (List.replicate 32 0)).toArray 30)) w1.heap.size (ints .u8 (List.replicate 32 0)).toArray (ints .u8 D).toArray 30 (0, 0) (Arr.new w1 30 (ints .u8 (List.replicate 32 0)))
  have hgf := grown_below (grown_alloc hg1 (.cells (ints .u8 (List.replicate 32 0)).toArray 30)) (below_setRow (Below.refl w.heap.size _) hg1.size (ints .u8 D).toArray) (Nat.le_refl _)
  have HS := Lib.hid hset
  have HG := Lib.hid hgf
  have HVZ := Lib.hid hvz
  have HVO := Lib.hid hvo
  have HV32 := Lib.hid hv32
  have hg1s := hg1.size
  clear hvz hvo hv32 hset hgf hg1
  have gD := fun j => getD_lt hdb j
  have hd0 : bits .and .u8 ((D.getD 0 0 : Nat) : Int) 127 = ((D.getD 0 0 % 128 : Nat) : Int) := and127 _ (gD 0)
  have HD0 := Lib.hid hd0
  have HDL := Lib.hid hdl
  have HGD := Lib.hid gD
  clear hd0 hdl hdb gD
  go_wp2_with (refine wpList_store_row rfl 30 (.tmp 5) (.tmp 9) rfl w1.heap.size (ints .u8 D).toArray rfl rfl 30 (ints .u8 (List.replicate 32 0)).toArray (Arr.new w1 30 (ints .u8 (List.replicate 32 0))) HVZ.out HV32.out HVO.out ?_; generalize hW : World.setRow _ _ _ = w2; have hA2 : Arr w2 w1.heap.size 30 (ints .u8 D) := (by rw [← hW]; exact HS.out); have HG2 : Hid (w.grownBy w2 none) := Lib.hid (by rw [← hW]; exact HG.out); clear HS HG hW HVZ HVO HV32; have c0 := hA2.cell (ints_get .u8 D (j := 0) (by rw [HDL.out]; decide)); have f0 := hA2.frozen 0; have hA3 := hA2.set 0 (.int .u8 ((D.getD 0 0 % 128 : Nat) : Int)); rw [ints_set] at hA3; have HA3 := Lib.hid hA3; have hd0 := HD0.out; generalize hx0 : D.getD 0 0 = x0 at *; clear hA2 hA3)
  generalize hW3 : w2.setCell _ _ = w3
  have hA3 : Arr w3 w1.heap.size 30 (ints .u8 (D.set 0 (x0 % 128))) := by rw [← hW3]; exact HA3.out
  have hG3 : w.grownBy w3 none := by rw [← hW3]; exact grown_new HG2.out hg1s _ _
  clear hW3 HA3 HG2 c0 f0
  have hl := fun j (hj : j < 32) => hA3.cell (ints_get .u8 (D.set 0 (x0 % 128)) (j := j) (by rw [List.length_set, HDL.out]; exact hj))
  have d0 := hl 0 (by decide)
  have d1 := hl 1 (by decide)
  have d2 := hl 2 (by decide)
  have d3 := hl 3 (by decide)
  have d4 := hl 4 (by decide)
  have d5 := hl 5 (by decide)
  have d6 := hl 6 (by decide)
  have d7 := hl 7 (by decide)
  clear hl
  rw [getD_set, if_pos (by rw [HDL.out]; decide)] at d0
  rw [getD_set, if_neg (fun h => absurd h.1 (by decide))] at d1 d2 d3 d4 d5 d6 d7
  have HR : Hid (hashN (strL tag) l = (((((((x0 % 128 * 256 + D.getD 1 0) * 256 + D.getD 2 0) * 256 + D.getD 3 0) * 256 + D.getD 4 0) * 256 + D.getD 5 0) * 256 + D.getD 6 0) * 256 + D.getD 7 0) % 1073741789) := Lib.hid (by rw [HH.out, ← hx0]; rfl)
  have g1 := HGD.out 1; have g2 := HGD.out 2; have g3 := HGD.out 3; have g4 := HGD.out 4; have g5 := HGD.out 5; have g6 := HGD.out 6; have g7 := HGD.out 7
  generalize D.getD 1 0 = x1 at *
  generalize D.getD 2 0 = x2 at *
  generalize D.getD 3 0 = x3 at *
  generalize D.getD 4 0 = x4 at *
  generalize D.getD 5 0 = x5 at *
  generalize D.getD 6 0 = x6 at *
  generalize D.getD 7 0 = x7 at *
  clear HH hx0 HD0 hd0
  obtain ⟨y0, hy0⟩ : ∃ y, y = x0 % 128 := ⟨_, rfl⟩
  obtain ⟨y1, hy1⟩ : ∃ y, y = y0 * 256 + x1 := ⟨_, rfl⟩
  obtain ⟨y2, hy2⟩ : ∃ y, y = y1 * 256 + x2 := ⟨_, rfl⟩
  obtain ⟨y3, hy3⟩ : ∃ y, y = y2 * 256 + x3 := ⟨_, rfl⟩
  obtain ⟨y4, hy4⟩ : ∃ y, y = y3 * 256 + x4 := ⟨_, rfl⟩
  obtain ⟨y5, hy5⟩ : ∃ y, y = y4 * 256 + x5 := ⟨_, rfl⟩
  obtain ⟨y6, hy6⟩ : ∃ y, y = y5 * 256 + x6 := ⟨_, rfl⟩
  obtain ⟨y7, hy7⟩ : ∃ y, y = y6 * 256 + x7 := ⟨_, rfl⟩
  have b0 : y0 < 128 := by omega
  have b1 : y1 < 32768 := by omega
  have b2 : y2 < 8388608 := by omega
  have b3 : y3 < 2147483648 := by omega
  have b4 : y4 < 549755813888 := by omega
  have b5 : y5 < 140737488355328 := by omega
  have b6 : y6 < 36028797018963968 := by omega
  have b7 : y7 < 9223372036854775808 := by omega
  have p0 : bits .or .i64 0 ((x0 : Int) % 128) = (y0 : Int) := by
    have := i64_or_nat 0 y0 (by decide) (by omega)
    rw [Nat.zero_or] at this
    rw [show ((x0 : Int) % 128) = (y0 : Int) from by omega]; exact this
  have w11 : wrap64 ((y0 : Int) * 256) = (y0 : Int) * 256 := by unfold wrap64; omega
  have p1 : bits .or .i64 ((y0 : Int) * 256) x1 = (y1 : Int) := by rw [hy1]; exact shl8i y0 x1 (by omega) g1
  have w12 : wrap64 ((y1 : Int) * 256) = (y1 : Int) * 256 := by unfold wrap64; omega
  have p2 : bits .or .i64 ((y1 : Int) * 256) x2 = (y2 : Int) := by rw [hy2]; exact shl8i y1 x2 (by omega) g2
  have w13 : wrap64 ((y2 : Int) * 256) = (y2 : Int) * 256 := by unfold wrap64; omega
  have p3 : bits .or .i64 ((y2 : Int) * 256) x3 = (y3 : Int) := by rw [hy3]; exact shl8i y2 x3 (by omega) g3
  have w14 : wrap64 ((y3 : Int) * 256) = (y3 : Int) * 256 := by unfold wrap64; omega
  have p4 : bits .or .i64 ((y3 : Int) * 256) x4 = (y4 : Int) := by rw [hy4]; exact shl8i y3 x4 (by omega) g4
  have w15 : wrap64 ((y4 : Int) * 256) = (y4 : Int) * 256 := by unfold wrap64; omega
  have p5 : bits .or .i64 ((y4 : Int) * 256) x5 = (y5 : Int) := by rw [hy5]; exact shl8i y4 x5 (by omega) g5
  have w16 : wrap64 ((y5 : Int) * 256) = (y5 : Int) * 256 := by unfold wrap64; omega
  have p6 : bits .or .i64 ((y5 : Int) * 256) x6 = (y6 : Int) := by rw [hy6]; exact shl8i y5 x6 (by omega) g6
  have w17 : wrap64 ((y6 : Int) * 256) = (y6 : Int) * 256 := by unfold wrap64; omega
  have p7 : bits .or .i64 ((y6 : Int) * 256) x7 = (y7 : Int) := by rw [hy7]; exact shl8i y6 x7 (by omega) g7
  have HR2 : Hid (hashN (strL tag) l = y7 % 1073741789) := Lib.hid (by rw [HR.out, hy7, hy6, hy5, hy4, hy3, hy2, hy1, hy0])
  clear hy0 hy1 hy2 hy3 hy4 hy5 hy6 hy7 HR
  refine wp_loop_rounds 9 ?_; rw [rounds_succ]
  go_wp2
  rw [rounds_succ]
  go_wp2
  rw [rounds_succ]
  go_wp2
  rw [rounds_succ]
  go_wp2
  rw [rounds_succ]
  go_wp2
  rw [rounds_succ]
  go_wp2
  rw [rounds_succ]
  go_wp2
  rw [rounds_succ]
  go_wp2
  rw [rounds_succ]
  go_wp2
  go_ret
  exact ⟨by rw [HR2.out]; rfl, hG3⟩
end Go.Proofs.YtjbcfdgnafmbkaaDoor.Sha
