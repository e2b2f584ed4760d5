/- The reference's SHA-256, last part: Tagged, and the reference's Hash. -/
import Derived.Test.YtjbcfdgnafmbkaaDoorRefSha3
set_option linter.unusedVariables false
namespace Go.Proofs.YtjbcfdgnafmbkaaDoor.Sha
open Go.RowKit Go.Proofs.YtjbcfdgnafmbkaaDoor Go.Proofs.YtjbcfdgnafmbkaaDoorW.PrintWords Go.Proofs.YtjbcfdgnafmbkaaDoor.PGroup Go.Proofs.YtjbcfdgnafmbkaaDoorW.PrintMore
set_option maxHeartbeats 1000000 in
set_option maxRecDepth 100000 in
theorem rtagged_c (tag : ByteArray) (A : Option Addr) (cap : Nat) (l : List Nat) (w : World) (hC : Kd.C (Kd.int .u8) w A l.length (toI l)) (hl : ∀ x ∈ l, x < 256) (hc0 : l.length ≤ cap) (hs1 : tag.size ≤ 1099511627776) (hs2 : l.length ≤ 1099511627776) :
    Calls Tryd.prog 56 #[.string tag, .slice A l.length cap] w fun e w' => e = .returned (.agg (ints .u8 (tagged (strL tag) l)).toArray) ∧ w.grownBy w' none := by
  have HC := Lib.hid hC
  have HB := Lib.hid hl
  clear hC hl
  have hconv : ∀ W : World, (convert 9 22 (.string tag)).run Tryd.prog W = .ok (.slice (some ⟨W.heap.size, 0, none⟩) tag.size (grownCap W tag.size 0 5))
      (W.drew.alloc (.cells (bytesRow tag (grownCap W tag.size 0 5)) 5 ((bytesRow tag (grownCap W tag.size 0 5)).size, (bytesRow tag (grownCap W tag.size 0 5)).size + 1))) :=
    fun W => run_bytes_of_string W 9 22 5 tag (by kernel_rfl) und22 (by kernel_rfl)
  go_enter Tryd.func56, Tryd.ntmps56
  go_wp2_with fail
  generalize hW1 : w.alloc _ = W1
  have hD1 : Arr W1 w.heap.size 30 (ints .u8 (List.replicate 32 0)) := by rw [← hW1]; exact Arr.new w 30 (ints .u8 (List.replicate 32 0))
  have hg1 : w.grownBy W1 none := by rw [← hW1]; exact World.grownBy_alloc w _ none
  have hz1 : W1.heap.size = w.heap.size + 1 := by rw [← hW1]; simp
  clear hW1 hconv
  rw [← hz1]
  generalize hcap : grownCap W1 tag.size 0 5 = cp
  have hcp1 : tag.size ≤ cp := by rw [← hcap]; exact grownCap_ge _ _ _ _
  have hcp2 : cp ≤ 9223372036854775807 := by rw [← hcap]; exact grownCap_le_maxLen _ _ _ _ (by simp only [maxLen]; omega)
  clear hcap
  have hT2 := World.alloc_heap_new W1 (.cells (bytesRow tag cp) 5 ((bytesRow tag cp).size, (bytesRow tag cp).size + 1))
  have hg2 := World.grownBy_alloc W1 (.cells (bytesRow tag cp) 5 ((bytesRow tag cp).size, (bytesRow tag cp).size + 1)) none
  have hg3 := grown_drew (grownBy_trans hg1 hg2)
  have hby := cells_string (W1.alloc (.cells (bytesRow tag cp) 5 ((bytesRow tag cp).size, (bytesRow tag cp).size + 1))).drew tag W1.heap.size cp _ hT2
  have hD2 : Arr (W1.alloc (.cells (bytesRow tag cp) 5 ((bytesRow tag cp).size, (bytesRow tag cp).size + 1))).drew w.heap.size 30 (ints .u8 (List.replicate 32 0)) := (hD1.alloc _).drew
  generalize (W1.alloc (.cells (bytesRow tag cp) 5 ((bytesRow tag cp).size, (bytesRow tag cp).size + 1))).drew = W2 at *
  clear hT2 hg2 hg1 hD1
  rw [← strL_length tag]
  refine (rsum_c (some ⟨W1.heap.size, 0, none⟩) cp (strL tag) W2 (C_of_byt hby (by rw [strL_length]; omega)) (strL_lt tag) (by rw [strL_length]; exact hcp1) (by rw [strL_length]; omega)).mono ?_
  rintro e w3 ⟨rfl, hg4⟩
  have hD3 := hD2.kept hg4 (by simp)
  have hg5 := grownBy_trans hg3 hg4
  have hw3 := hg5.size
  have hDl := hD3.lt
  clear hby hD2 hg3 hg4
  rw [strL_length tag]
  have hvz : (Tryd.prog.info? 30).map (·.size) = some (ints .u8 (sum (strL tag))).toArray.size := by rw [List.size_toArray, ints_length, sum, bytes_length]; kernel_rfl
  have hvo : (ints .u8 (sum (strL tag))).toArray.all (·.oneCell') = true := by simp [ints, Value.oneCell']
  have hv32 : (ints .u8 (List.replicate 32 0)).toArray.size = (ints .u8 (sum (strL tag))).toArray.size := by rw [List.size_toArray, List.size_toArray, ints_length, ints_length, sum, bytes_length, List.length_replicate]
  have HVZ := Lib.hid hvz
  have HVO := Lib.hid hvo
  have HV32 := Lib.hid hv32
  clear hvz hvo hv32
  go_upto_region 2 with (refine wpList_store_row rfl 30 (.tmp 5) (.tmp 8) rfl w3.heap.size (ints .u8 (sum (strL tag))).toArray rfl rfl 30 (ints .u8 (List.replicate 32 0)).toArray (Arr.new w3 30 (ints .u8 (List.replicate 32 0))) HVZ.out HV32.out HVO.out ?_)
  generalize hW4 : World.setRow _ _ _ = W4
  have hA3 : Arr (w3.alloc (.cells (ints .u8 (List.replicate 32 0)).toArray 30)) w3.heap.size 30 (ints .u8 (List.replicate 32 0)) := Arr.new w3 30 _
  have hT4 : Arr W4 w3.heap.size 30 (ints .u8 (sum (strL tag))) := by rw [← hW4]; exact setRow_heap _ _ _ _ _ _ hA3
  have hD4 : Arr W4 w.heap.size 30 (ints .u8 (List.replicate 32 0)) := by rw [← hW4]; exact (hD3.alloc _).below (below_setRow (Below.refl w3.heap.size _) (Nat.le_refl _) _) hDl
  have hg6 : w.grownBy W4 none := by rw [← hW4]; exact grown_below (grown_alloc hg5 _) (below_setRow (Below.refl w.heap.size _) hw3 _) (Nat.le_refl _)
  have hz4 : W4.heap.size = w3.heap.size + 1 := by rw [← hW4]; simp [World.setRow]
  have hlS : W4.heap.size = W4.heap.size := rfl
  have hl32 : (sum (strL tag)).length = 32 := bytes_length _
  have hC1 : Kd.C (Kd.int .u8) W4 (some ⟨w3.heap.size, 0, none⟩) 32 (toI (sum (strL tag))) := by
    have := C_of_arr hT4 (by rw [hl32]; decide)
    rw [hl32] at this; exact this
  have hC2 := Kd.C_below HC.out (below_none hg6)
  have HC1 := Lib.hid hC1
  have HC2 := Lib.hid hC2
  have HD4 := Lib.hid hD4
  have HG6 := Lib.hid hg6
  have HL32 := Lib.hid hl32
  have hlI : (toI (sum (strL tag))).length = 32 := by rw [toI_length, hl32]
  have HLI := Lib.hid hlI
  clear hC1 hC2 hD4 hg6 hl32 hlI hlS hW4 hA3 hT4 hD3 hg5 hz4
  go_wp2_with (first | ((with_reducible refine gate_dst (N := 9) rfl ?_); refine Kd.R_lit (Kd.int .u8) _ 5 ?hg (N := 9) ?hd (xs := ([] : List Int)) (inner := []) (ok := fun _ => True) (okp := fun _ => True) ?hr ?hp (fun _ hk => hk) trivial (Below.refl _ _) (Nat.le_refl _) (by simp) ?_; (case hd => rfl); (case hg => rfl); (case hr => first | (go_simp; done) | (go_simp; rfl)); (case hp => exact (Reps.none _ _)); intro v9 w5 ho5 hb5 hgr5 hnew5; have HO5 := Lib.hid ho5; have HB5 := Lib.hid hb5; have hs5 := hb5.size; have hC5 := Kd.C_below HC1.out hb5; have HC5 := Lib.hid hC5; clear ho5 hb5 hgr5 hnew5 hC5) | (at_builtin; refine Kd.R_append_rows (Kd.int .u8) (w0 := W4) W4.heap.size rfl (.tmp 9) (.tmp 10) 22 5 (.int .u8 0) 1 rfl und22 inf5 rfl (by decide) (by omega) v9 [] (toI (sum (strL tag))) (some ⟨w3.heap.size, 0, none⟩) 32 32 (fun _ => True) (fun _ => False) rfl rfl HO5.out HC5.out (fun _ _ h => h) (fun _ h => h.elim) (fun _ _ => trivial) HB5.out hs5 (by have := HLI.out; simp only [List.length_nil]; omega) ?_; intro v11 w6 hR6 hb6 hg6 hat6; have HR6 := Lib.hid hR6; have HB6 := Lib.hid hb6; have hs6 := hb6.size; have hC6 := Kd.C_below HC2.out hb6; have HC6 := Lib.hid hC6; clear hR6 hb6 hg6 hat6 hC6) | (at_builtin; refine Kd.R_append_rows (Kd.int .u8) (w0 := W4) W4.heap.size rfl (.tmp 11) (.tmp 12) 22 5 (.int .u8 0) 1 rfl und22 inf5 rfl (by decide) (by omega) v11 ([] ++ toI (sum (strL tag))) (toI l) A l.length cap (fun _ => True) (fun _ => False) rfl rfl HR6.out HC6.out (fun _ _ h => h) (fun _ h => h.elim) (fun _ _ => trivial) HB6.out hs6 (by have h1 := HLI.out; have h2 := toI_length l; rw [List.nil_append]; omega) ?_; intro v13 w7 hR7 hb7 hg7 hat7; have HR7 := Lib.hid hR7; have HB7 := Lib.hid hb7; clear hR7 hb7 hg7 hat7))
  have hR7 := HR7.out
  rw [List.nil_append, ← toI_append] at hR7
  have hD7 := HD4.out.below HB7.out HD4.out.lt
  have hg7 := grown_below HG6.out HB7.out HG6.out.size
  obtain ⟨A6, c6, rfl, hc6, hr6⟩ := Kd.R_reads hR7
  have hcap6 : c6 ≤ 9223372036854775807 := R_cap hR7
  rw [toI_length] at hc6 hr6 ⊢
  have hlt6 : ∀ x ∈ sum (strL tag) ++ l, x < 256 := by
    intro x hx
    rcases List.mem_append.1 hx with hx | hx
    · exact bytes_lt _ x hx
    · exact HB.out x hx
  refine (rsum_c A6 c6 (sum (strL tag) ++ l) w7 hr6 hlt6 hc6 (by rw [List.length_append, HL32.out]; omega)).mono ?_
  rintro e w8 ⟨rfl, hg9⟩
  have hD8 := hD7.kept hg9 (by simp)
  have hg10 := grownBy_trans hg7 hg9
  clear hR7 hD7 hg7 hg9 hr6 hc6 hcap6 HR7 HB7 HVZ HVO HV32
  have hvz : (Tryd.prog.info? 30).map (·.size) = some (ints .u8 (sum (sum (strL tag) ++ l))).toArray.size := by rw [List.size_toArray, ints_length, sum, bytes_length]; kernel_rfl
  have hvo : (ints .u8 (sum (sum (strL tag) ++ l))).toArray.all (·.oneCell') = true := by simp [ints, Value.oneCell']
  have hv32 : (ints .u8 (List.replicate 32 0)).toArray.size = (ints .u8 (sum (sum (strL tag) ++ l))).toArray.size := by rw [List.size_toArray, List.size_toArray, ints_length, ints_length, sum, bytes_length, List.length_replicate]
  have HVZ := Lib.hid hvz
  have HVO := Lib.hid hvo
  have HV32 := Lib.hid hv32
  have HD7 := Lib.hid hD8
  clear hvz hvo hv32 hD8
  go_wp2_with (refine wpList_store_row rfl 30 (.tmp 4) (.tmp 14) rfl w.heap.size (ints .u8 (sum (sum (strL tag) ++ l))).toArray rfl rfl 30 (ints .u8 (List.replicate 32 0)).toArray HD7.out HVZ.out HV32.out HVO.out ?_)
  have hfin : ints .u8 (tagged (strL tag) l) = ints .u8 (sum (sum (strL tag) ++ l)) := by rw [tagged]
  rw [hfin]
  generalize ints .u8 (sum (sum (strL tag) ++ l)) = vs at *
  have hset := setRow_heap w8 w.heap.size (ints .u8 (List.replicate 32 0)).toArray vs.toArray 30 (0, 0) HD7.out
  have hgf := grown_below hg10 (below_setRow (Below.refl w.heap.size w8) (Nat.le_refl w.heap.size) vs.toArray) (Nat.le_refl _)
  generalize World.setRow _ _ _ = w9 at *
  exact bodyPost_ret (v := .agg vs.toArray) (results_cell_row rfl _ _ w.heap.size 30 vs.toArray (0, 0) (.array 32 5) rfl hset (by kernel_rfl) rfl HVZ.out) rfl ⟨rfl, hgf⟩
set_option maxHeartbeats 1000000 in
set_option maxRecDepth 100000 in
theorem rhash_c (tag : ByteArray) (A : Option Addr) (cap : Nat) (l : List Nat) (w : World) (hC : Kd.C (Kd.int .u8) w A l.length (toI l)) (hl : ∀ x ∈ l, x < 256) (hc0 : l.length ≤ cap) (hs1 : tag.size ≤ 1099511627776) (hs2 : l.length ≤ 1099511627776) :
    Calls Tryd.prog 21 #[.string tag, .slice A l.length cap] w fun e w' => e = .returned (.int .i64 (hashN (strL tag) l)) ∧ w.grownBy w' none := by
  have HT := Lib.hid (rtagged_c tag A cap l w hC hl hc0 hs1 hs2)
  clear hC hl
  go_enter Tryd.func21, Tryd.ntmps21
  go_wp2_with fail
  refine HT.out.mono ?_
  rintro e w1 ⟨rfl, hg1⟩
  have HH : Hid (hashN (strL tag) l = num8 (tagged (strL tag) l) % 1073741789) := Lib.hid rfl
  have hdl := tagged_length (strL tag) l
  have hdb := tagged_lt (strL tag) l
  obtain ⟨R, hRE⟩ : ∃ R, R = hashN (strL tag) l := ⟨_, rfl⟩
  rw [← hRE] at HH
  have HRE := Lib.hid hRE
  clear hRE
  generalize tagged (strL tag) l = D at *
  have hvz : (Tryd.prog.info? 30).map (·.size) = some (ints .u8 D).toArray.size := by rw [List.size_toArray, ints_length, hdl]; kernel_rfl
  have hvo : (ints .u8 D).toArray.all (·.oneCell') = true := by simp [ints, Value.oneCell']
  have hv32 : (ints .u8 (List.replicate 32 0)).toArray.size = (ints .u8 D).toArray.size := by rw [List.size_toArray, List.size_toArray, ints_length, ints_length, hdl, List.length_replicate]
  have hset := setRow_heap (w1.alloc (.cells (ints .u8 (List.replicate 32 0)).toArray 30)) w1.heap.size (ints .u8 (List.replicate 32 0)).toArray (ints .u8 D).toArray 30 (0, 0) (Arr.new w1 30 (ints .u8 (List.replicate 32 0)))
  have hgf := grown_below (grown_alloc hg1 (.cells (ints .u8 (List.replicate 32 0)).toArray 30)) (below_setRow (Below.refl w.heap.size _) hg1.size (ints .u8 D).toArray) (Nat.le_refl _)
  have HS := Lib.hid hset
  have HG := Lib.hid hgf
  have HVZ := Lib.hid hvz
  have HVO := Lib.hid hvo
  have HV32 := Lib.hid hv32
  have HDL := Lib.hid hdl
  have HDB := Lib.hid hdb
  clear hvz hvo hv32 hset hgf hg1 hdl hdb HT
  go_upto_region 2 with (refine wpList_store_row rfl 30 (.tmp 5) (.tmp 10) rfl w1.heap.size (ints .u8 D).toArray rfl rfl 30 (ints .u8 (List.replicate 32 0)).toArray (Arr.new w1 30 (ints .u8 (List.replicate 32 0))) HVZ.out HV32.out HVO.out ?_; generalize hW : World.setRow _ _ _ = w4; have hA4 : Arr w4 w1.heap.size 30 (ints .u8 D) := (by rw [← hW]; exact HS.out); have HG4 : Hid (w.grownBy w4 none) := Lib.hid (by rw [← hW]; exact HG.out); clear HS HG hW HVZ HVO HV32)
  have hl := fun j (hj : j < 32) => hA4.cell (ints_get .u8 D (j := j) (by rw [HDL.out]; exact hj))
  have d0 := hl 0 (by decide)
  have d1 := hl 1 (by decide)
  have d2 := hl 2 (by decide)
  have d3 := hl 3 (by decide)
  have d4 := hl 4 (by decide)
  have d5 := hl 5 (by decide)
  have d6 := hl 6 (by decide)
  have d7 := hl 7 (by decide)
  clear hl hA4
  have g0 := getD_lt HDB.out 0
  have g1 := getD_lt HDB.out 1
  have g2 := getD_lt HDB.out 2
  have g3 := getD_lt HDB.out 3
  have g4 := getD_lt HDB.out 4
  have g5 := getD_lt HDB.out 5
  have g6 := getD_lt HDB.out 6
  have g7 := getD_lt HDB.out 7
  have HR : Hid (R = (((((((D.getD 0 0 % 128 * 256 + D.getD 1 0) * 256 + D.getD 2 0) * 256 + D.getD 3 0) * 256 + D.getD 4 0) * 256 + D.getD 5 0) * 256 + D.getD 6 0) * 256 + D.getD 7 0) % 1073741789) := Lib.hid (by rw [HH.out]; rfl)
  generalize D.getD 0 0 = x0 at *
  generalize D.getD 1 0 = x1 at *
  generalize D.getD 2 0 = x2 at *
  generalize D.getD 3 0 = x3 at *
  generalize D.getD 4 0 = x4 at *
  generalize D.getD 5 0 = x5 at *
  generalize D.getD 6 0 = x6 at *
  generalize D.getD 7 0 = x7 at *
  obtain ⟨y0, hy0⟩ : ∃ y, y = x0 % 128 := ⟨_, rfl⟩
  obtain ⟨y1, hy1⟩ : ∃ y, y = y0 * 256 + x1 := ⟨_, rfl⟩
  obtain ⟨y2, hy2⟩ : ∃ y, y = y1 * 256 + x2 := ⟨_, rfl⟩
  obtain ⟨y3, hy3⟩ : ∃ y, y = y2 * 256 + x3 := ⟨_, rfl⟩
  obtain ⟨y4, hy4⟩ : ∃ y, y = y3 * 256 + x4 := ⟨_, rfl⟩
  obtain ⟨y5, hy5⟩ : ∃ y, y = y4 * 256 + x5 := ⟨_, rfl⟩
  obtain ⟨y6, hy6⟩ : ∃ y, y = y5 * 256 + x6 := ⟨_, rfl⟩
  obtain ⟨y7, hy7⟩ : ∃ y, y = y6 * 256 + x7 := ⟨_, rfl⟩
  have b0 : y0 < 128 := by omega
  have b1 : y1 < 32768 := by omega
  have b2 : y2 < 8388608 := by omega
  have b3 : y3 < 2147483648 := by omega
  have b4 : y4 < 549755813888 := by omega
  have b5 : y5 < 140737488355328 := by omega
  have b6 : y6 < 36028797018963968 := by omega
  have b7 : y7 < 9223372036854775808 := by omega
  have m0 : ((x0 : Int) % 128) = (y0 : Int) := by omega
  have st : ∀ (y x z : Nat), z = y * 256 + x → z < 9223372036854775808 → wrap64 ((y : Int) * 256) = (y : Int) * 256 ∧ wrap64 ((y : Int) * 256 + x) = (z : Int) ∧ ((y : Int) * 256 + x = (z : Int)) := by
    intro y x z h1 h2
    refine ⟨?_, ?_, by omega⟩ <;> (unfold wrap64; omega)
  have Q1 := Lib.hid (And.intro (st y0 x1 y1 hy1 (by omega)) (And.intro d1 g1))
  have Q2 := Lib.hid (And.intro (st y1 x2 y2 hy2 (by omega)) (And.intro d2 g2))
  have Q3 := Lib.hid (And.intro (st y2 x3 y3 hy3 (by omega)) (And.intro d3 g3))
  have Q4 := Lib.hid (And.intro (st y3 x4 y4 hy4 (by omega)) (And.intro d4 g4))
  have Q5 := Lib.hid (And.intro (st y4 x5 y5 hy5 (by omega)) (And.intro d5 g5))
  have Q6 := Lib.hid (And.intro (st y5 x6 y6 hy6 (by omega)) (And.intro d6 g6))
  have Q7 := Lib.hid (And.intro (st y6 x7 y7 hy7 (by omega)) (And.intro d7 g7))
  have HF : Hid (((y7 : Int) % 1073741789) = (R : Int)) := Lib.hid (by rw [HR.out, ← hy0, ← hy1, ← hy2, ← hy3, ← hy4, ← hy5, ← hy6, ← hy7]; simp)
  clear hy0 hy1 hy2 hy3 hy4 hy5 hy6 hy7 d1 d2 d3 d4 d5 d6 d7 g1 g2 g3 g4 g5 g6 g7 b1 b2 b3 b4 b5 b6 st HR HH
  go_wp2
  refine wp_loop_rounds 8 ?_
  have M0 := Lib.hid m0
  clear d0 m0
  rw [rounds_succ]
  have ed := Q1.out.2.1
  have eg := Q1.out.2.2
  go_wp2
  clear ed eg
  rw [rounds_succ]
  have ed := Q2.out.2.1
  have eg := Q2.out.2.2
  go_wp2
  clear ed eg
  rw [rounds_succ]
  have ed := Q3.out.2.1
  have eg := Q3.out.2.2
  go_wp2
  clear ed eg
  rw [rounds_succ]
  have ed := Q4.out.2.1
  have eg := Q4.out.2.2
  go_wp2
  clear ed eg
  rw [rounds_succ]
  have ed := Q5.out.2.1
  have eg := Q5.out.2.2
  go_wp2
  clear ed eg
  rw [rounds_succ]
  have ed := Q6.out.2.1
  have eg := Q6.out.2.2
  go_wp2
  clear ed eg
  rw [rounds_succ]
  have ed := Q7.out.2.1
  have eg := Q7.out.2.2
  go_wp2
  clear ed eg
  rw [rounds_succ]
  go_wp2
  go_ret
  refine ⟨congrArg (fun z => Ending.returned (.int .i64 z)) ?_, HG4.out⟩
  rw [M0.out, Q1.out.1.2.2, Q2.out.1.1, Q2.out.1.2.1, Q3.out.1.1, Q3.out.1.2.1, Q4.out.1.1, Q4.out.1.2.1, Q5.out.1.1, Q5.out.1.2.1, Q6.out.1.1, Q6.out.1.2.1, Q7.out.1.1, Q7.out.1.2.1, Int.tmod_eq_emod_of_nonneg (by omega), HF.out]
  rw [HRE.out]
end Go.Proofs.YtjbcfdgnafmbkaaDoor.Sha
