/- digest.Tagged: the hash of bytes under a tag. -/
import Derived.Test.YtjbcfdgnafmbkaaDoorSha5
import Derived.Laws.IdiomStrings
set_option linter.unusedVariables false
namespace Go.Proofs.YtjbcfdgnafmbkaaDoor.Sha
open Go.RowKit Go.Proofs.YtjbcfdgnafmbkaaDoor Go.Proofs.YtjbcfdgnafmbkaaDoorW.PrintWords
/-- Bytes as the print has them. -/
def toI (l : List Nat) : List Int := l.map fun (x : Nat) => (x : Int)
/-- The bytes of a string. -/
def strL (s : ByteArray) : List Nat := s.data.toList.map UInt8.toNat
theorem toI_length (l : List Nat) : (toI l).length = l.length := List.length_map _
theorem strL_length (s : ByteArray) : (strL s).length = s.size := by simp [strL]
theorem strL_lt (s : ByteArray) : ∀ x ∈ strL s, x < 256 := by
  intro x hx
  obtain ⟨b, _, rfl⟩ := List.mem_map.1 hx
  exact b.toNat_lt
theorem toI_append (a b : List Nat) : toI (a ++ b) = toI a ++ toI b := List.map_append
theorem byt_of_C {w : World} {A : Option Addr} {n : Nat} {l : List Nat} (h : Kd.C (Kd.int .u8) w A n (toI l)) (hl : ∀ x ∈ l, x < 256) : Byt w A l := by
  obtain ⟨h1, h2, h3⟩ := h
  refine ⟨hl, fun hp => ?_⟩
  rw [toI_length] at h1
  obtain ⟨ad, hA, hc⟩ := h3 (by omega)
  have hget : ∀ j, j < l.length → w.cell? (ad.add j) = some (.int .u8 (l.getD j 0 : Nat)) := fun j hj => by
    obtain ⟨c, e1, e2, e3⟩ := hc j ((l.getD j 0 : Nat) : Int) (by simp [toI, List.getElem?_map, List.getElem?_eq_getElem hj, List.getD_eq_getElem?_getD])
    have e2 : c = [.int .u8 ((l.getD j 0 : Nat) : Int)] := e2
    have := e3 0 (.int .u8 ((l.getD j 0 : Nat) : Int)) (by rw [e2]; rfl)
    have hz : (Kd.int .u8).sz = 1 := rfl
    rw [hz, Nat.mul_one, Nat.add_zero] at this
    exact this
  have hs : ad.spot = none := by
    have := hget 0 hp
    rw [show ad.add 0 = ad from rfl] at this
    unfold World.cell? at this
    cases hsp : ad.spot with
    | none => rfl
    | some k => rw [hsp] at this; split at this <;> simp at this
  obtain ⟨b, o, s⟩ := ad
  cases hs
  refine ⟨b, o, hA, fun j hj => ?_⟩
  have := hget j hj
  rw [show (⟨b, o, none⟩ : Addr).add j = ⟨b, o + j, none⟩ from by unfold Addr.add; split <;> simp_all] at this
  exact this
theorem C_of_arr {w : World} {T : Nat} {t : TypeId} {l : List Nat} (h : Arr w T t (ints .u8 l)) (hl : l.length ≤ 9223372036854775807) : Kd.C (Kd.int .u8) w (some ⟨T, 0, none⟩) l.length (toI l) := by
  refine ⟨toI_length l, hl, fun _ => ⟨_, rfl, fun j p hj => ?_⟩⟩
  have hjl : j < l.length := by have := (List.getElem?_eq_some_iff.1 hj).1; rwa [toI_length] at this
  refine ⟨[.int .u8 p], rfl, rfl, fun i u hu => ?_⟩
  have hp : p = (l.getD j 0 : Nat) := by
    simp only [toI, List.getElem?_map, List.getElem?_eq_getElem hjl, Option.map_some, Option.some.injEq] at hj
    rw [← hj, List.getD_eq_getElem?_getD, List.getElem?_eq_getElem hjl]; rfl
  match i, hu with
  | 0, hu =>
    cases hu
    show w.cell? ((⟨T, 0, none⟩ : Addr).add (j * 1 + 0)) = _
    rw [Nat.mul_one, Nat.add_zero, add_at, Nat.zero_add, hp]
    exact h.cell (ints_get .u8 l hjl)
theorem cells_string (w : World) (s : ByteArray) (g : Nat) (c : Nat) (fr : Nat × Nat) (h : w.heap[g]? = some (.cells (bytesRow s c) 5 fr)) : Byt w (some ⟨g, 0, none⟩) (strL s) := by
  refine ⟨strL_lt s, fun _ => ⟨g, 0, rfl, fun j hj => ?_⟩⟩
  have hj' : j < s.data.size := by rw [strL_length] at hj; exact hj
  simp only [World.cell?, h]
  rw [Nat.zero_add]
  have := bytesRow_at s c j hj'
  simp only [Option.isSome_none, Bool.false_eq_true, if_false]
  rw [this]
  simp only [strL, List.getD_eq_getElem?_getD, List.getElem?_map, Array.getElem?_toList, Array.getElem?_eq_getElem hj', Option.map_some, Option.getD_some]
theorem R_cap {α : Type} {d : Kd α} {e : Nat} {w : World} {base : Nat} {ok : Nat → Prop} {A : Option Addr} {n c : Nat} {xs : List α} (h : d.R e w base ok (.slice A n c) xs) : c ≤ 9223372036854775807 := by
  obtain ⟨inner, ho⟩ := Kd.R_own h
  rcases ho.2 with ⟨e1, _⟩ | ⟨g, cap, cur, e1, _, _, _, hm, _⟩
  · injection e1 with _ _ e3; omega
  · injection e1 with _ _ e3; rw [e3]; exact hm
set_option maxHeartbeats 1000000 in
theorem tagged_c (tag : ByteArray) (A : Option Addr) (cap : Nat) (l : List Nat) (w : World) (hC : Kd.C (Kd.int .u8) w A l.length (toI l)) (hl : ∀ x ∈ l, x < 256) (hs1 : tag.size ≤ 1099511627776) (hs2 : l.length ≤ 1099511627776) (hL : Laid w) (h2 : 2 ≤ w.heap.size) :
    Calls Tryd.prog 22 #[.string tag, .slice A l.length cap] w fun e w' => e = .returned (.agg (ints .u8 (tagged (strL tag) l)).toArray) ∧ w.grownBy w' none := by
  have HC := Lib.hid hC
  have HL := Lib.hid hL
  have HB := Lib.hid hl
  clear hC hL hl
  have hconv : ∀ W : World, (convert 9 22 (.string tag)).run Tryd.prog W = .ok (.slice (some ⟨W.heap.size, 0, none⟩) tag.size (grownCap W tag.size 0 5))
      (W.drew.alloc (.cells (bytesRow tag (grownCap W tag.size 0 5)) 5 ((bytesRow tag (grownCap W tag.size 0 5)).size, (bytesRow tag (grownCap W tag.size 0 5)).size + 1))) :=
    fun W => run_bytes_of_string W 9 22 5 tag (by kernel_rfl) und22 (by kernel_rfl)
  go_enter Tryd.func22, Tryd.ntmps22
  go_wp2_with fail
  generalize hW1 : w.alloc _ = W1
  have hD1 : Arr W1 w.heap.size 30 (ints .u8 (List.replicate 32 0)) := by rw [← hW1]; exact Arr.new w 30 (ints .u8 (List.replicate 32 0))
  have hg1 : w.grownBy W1 none := by rw [← hW1]; exact World.grownBy_alloc w _ none
  have hz1 : W1.heap.size = w.heap.size + 1 := by rw [← hW1]; simp
  clear hW1 hconv
  rw [← hz1]
  generalize hcap : grownCap W1 tag.size 0 5 = cp
  have hcp1 : tag.size ≤ cp := by rw [← hcap]; exact grownCap_ge _ _ _ _
  have hcp2 : cp ≤ 9223372036854775807 := by rw [← hcap]; exact grownCap_le_maxLen _ _ _ _ (by simp only [maxLen]; omega)
  clear hcap
  have hT2 := World.alloc_heap_new W1 (.cells (bytesRow tag cp) 5 ((bytesRow tag cp).size, (bytesRow tag cp).size + 1))
  have hg2 := World.grownBy_alloc W1 (.cells (bytesRow tag cp) 5 ((bytesRow tag cp).size, (bytesRow tag cp).size + 1)) none
  have hg3 := grown_drew (grownBy_trans hg1 hg2)
  have hby := cells_string (W1.alloc (.cells (bytesRow tag cp) 5 ((bytesRow tag cp).size, (bytesRow tag cp).size + 1))).drew tag W1.heap.size cp _ hT2
  have hD2 : Arr (W1.alloc (.cells (bytesRow tag cp) 5 ((bytesRow tag cp).size, (bytesRow tag cp).size + 1))).drew w.heap.size 30 (ints .u8 (List.replicate 32 0)) := (hD1.alloc _).drew
  generalize (W1.alloc (.cells (bytesRow tag cp) 5 ((bytesRow tag cp).size, (bytesRow tag cp).size + 1))).drew = W2 at *
  clear hT2 hg2 hg1 hD1
  rw [← strL_length tag]
  refine (sum_c (some ⟨W1.heap.size, 0, none⟩) cp (strL tag) W2 hby (by rw [strL_length]; exact hcp1) hcp2 (by rw [strL_length]; omega) (HL.out.grown hg3 (by simp)) (by have := hg3.size; omega)).mono ?_
  rintro e w3 ⟨rfl, hg4⟩
  have hD3 := hD2.kept hg4 (by simp)
  have hg5 := grownBy_trans hg3 hg4
  have hw3 := hg5.size
  have hDl := hD3.lt
  clear hby hD2 hg3 hg4
  rw [strL_length tag]
  have hvz : (Tryd.prog.info? 30).map (·.size) = some (ints .u8 (sum (strL tag))).toArray.size := by rw [List.size_toArray, ints_length, sum, bytes_length]; kernel_rfl
  have hvo : (ints .u8 (sum (strL tag))).toArray.all (·.oneCell') = true := by simp [ints, Value.oneCell']
  have hv32 : (ints .u8 (List.replicate 32 0)).toArray.size = (ints .u8 (sum (strL tag))).toArray.size := by rw [List.size_toArray, List.size_toArray, ints_length, ints_length, sum, bytes_length, List.length_replicate]
  have HVZ := Lib.hid hvz
  have HVO := Lib.hid hvo
  have HV32 := Lib.hid hv32
  clear hvz hvo hv32
  go_wp2_with (refine wpList_store_row rfl 30 (.tmp 5) (.tmp 8) rfl w3.heap.size (ints .u8 (sum (strL tag))).toArray rfl rfl 30 (ints .u8 (List.replicate 32 0)).toArray (Arr.new w3 30 (ints .u8 (List.replicate 32 0))) HVZ.out HV32.out HVO.out ?_)
  generalize hW4 : World.setRow _ _ _ = W4
  have hA3 : Arr (w3.alloc (.cells (ints .u8 (List.replicate 32 0)).toArray 30)) w3.heap.size 30 (ints .u8 (List.replicate 32 0)) := Arr.new w3 30 _
  have hT4 : Arr W4 w3.heap.size 30 (ints .u8 (sum (strL tag))) := by rw [← hW4]; exact setRow_heap _ _ _ _ _ _ hA3
  have hD4 : Arr W4 w.heap.size 30 (ints .u8 (List.replicate 32 0)) := by rw [← hW4]; exact (hD3.alloc _).below (below_setRow (Below.refl w3.heap.size _) (Nat.le_refl _) _) hDl
  have hg6 : w.grownBy W4 none := by rw [← hW4]; exact grown_below (grown_alloc hg5 _) (below_setRow (Below.refl w.heap.size _) hw3 _) (Nat.le_refl _)
  have hz4 : W4.heap.size = w3.heap.size + 1 := by rw [← hW4]; simp [World.setRow]
  rw [← hz4]
  generalize hW5 : W4.alloc _ = W5
  have hV5 : Arr W5 W4.heap.size 22 [.slice (some ⟨w3.heap.size, 0, none⟩) 32 32, .slice A l.length cap] := by rw [← hW5]; exact Arr.new W4 22 _
  have hT5 : Arr W5 w3.heap.size 30 (ints .u8 (sum (strL tag))) := by rw [← hW5]; exact hT4.alloc _
  have hD5 : Arr W5 w.heap.size 30 (ints .u8 (List.replicate 32 0)) := by rw [← hW5]; exact hD4.alloc _
  have hg7 : w.grownBy W5 none := by rw [← hW5]; exact grown_alloc hg6 _
  clear hW4 hW5 hA3 hT4 hD4 hg6 hD3 hg5
  have hl32 : (sum (strL tag)).length = 32 := bytes_length _
  have hC1 : Kd.C (Kd.int .u8) W5 (some ⟨w3.heap.size, 0, none⟩) 32 (toI (sum (strL tag))) := by
    have := C_of_arr hT5 (by rw [hl32]; decide)
    rw [hl32] at this; exact this
  have hC2 := Kd.C_below HC.out (below_of_grown (Below.refl _ _) hg7 (Nat.le_refl _) (by simp))
  refine (concat_c W4.heap.size 32 l.length 32 cap (some ⟨w3.heap.size, 0, none⟩) A (toI (sum (strL tag))) (toI l) W5 hV5 hC1 hC2 (by decide) (by omega)).mono ?_
  rintro e w6 ⟨v, rfl, hR6, hb6⟩
  have hD6 := hD5.below hb6 hD5.lt
  have hg8 := grown_below hg7 hb6 hg7.size
  clear hV5 hT5 hD5 hC1 hC2 hg7 hb6
  rw [← toI_append] at hR6
  obtain ⟨A6, c6, rfl, hc6, hr6⟩ := Kd.R_reads hR6
  have hcap6 : c6 ≤ 9223372036854775807 := R_cap hR6
  rw [toI_length] at hc6 hr6 ⊢
  have hlt6 : ∀ x ∈ sum (strL tag) ++ l, x < 256 := by
    intro x hx
    rcases List.mem_append.1 hx with hx | hx
    · exact bytes_lt _ x hx
    · exact HB.out x hx
  have hby6 := byt_of_C hr6 hlt6
  have HBY := Lib.hid hby6
  clear hR6 hr6 hby6 hlt6
  obtain ⟨n6, hn6⟩ : ∃ n, n = (sum (strL tag) ++ l).length := ⟨_, rfl⟩
  rw [← hn6] at hc6 ⊢
  have HN6 := Lib.hid hn6
  clear hn6
  go_wp2_with fail
  rw [HN6.out] at hc6 ⊢
  refine (sum_c A6 c6 (sum (strL tag) ++ l) w6 HBY.out hc6 hcap6 (by rw [List.length_append, hl32]; omega) (HL.out.grown hg8 (by simp)) (by have := hg8.size; omega)).mono ?_
  rintro e w7 ⟨rfl, hg9⟩
  have hD7 := hD6.kept hg9 (by simp)
  have hg10 := grownBy_trans hg8 hg9
  clear hD6 hg8 hg9 HBY HVZ HVO HV32
  have hvz : (Tryd.prog.info? 30).map (·.size) = some (ints .u8 (sum (sum (strL tag) ++ l))).toArray.size := by rw [List.size_toArray, ints_length, sum, bytes_length]; kernel_rfl
  have hvo : (ints .u8 (sum (sum (strL tag) ++ l))).toArray.all (·.oneCell') = true := by simp [ints, Value.oneCell']
  have hv32 : (ints .u8 (List.replicate 32 0)).toArray.size = (ints .u8 (sum (sum (strL tag) ++ l))).toArray.size := by rw [List.size_toArray, List.size_toArray, ints_length, ints_length, sum, bytes_length, List.length_replicate]
  have HVZ := Lib.hid hvz
  have HVO := Lib.hid hvo
  have HV32 := Lib.hid hv32
  have HD7 := Lib.hid hD7
  clear hvz hvo hv32 hD7
  go_wp2_with (refine wpList_store_row rfl 30 (.tmp 4) (.tmp 13) rfl w.heap.size (ints .u8 (sum (sum (strL tag) ++ l))).toArray rfl rfl 30 (ints .u8 (List.replicate 32 0)).toArray HD7.out HVZ.out HV32.out HVO.out ?_)
  have hfin : ints .u8 (tagged (strL tag) l) = ints .u8 (sum (sum (strL tag) ++ l)) := by rw [tagged]
  rw [hfin]
  generalize ints .u8 (sum (sum (strL tag) ++ l)) = vs at *
  have hset := setRow_heap w7 w.heap.size (ints .u8 (List.replicate 32 0)).toArray vs.toArray 30 (0, 0) HD7.out
  have hgf := grown_below hg10 (below_setRow (Below.refl w.heap.size w7) (Nat.le_refl w.heap.size) vs.toArray) (Nat.le_refl _)
  generalize World.setRow _ _ _ = w8 at *
  exact bodyPost_ret (v := .agg vs.toArray) (results_cell_row rfl _ _ w.heap.size 30 vs.toArray (0, 0) (.array 32 5) rfl hset (by kernel_rfl) rfl HVZ.out) rfl ⟨rfl, hgf⟩
end Go.Proofs.YtjbcfdgnafmbkaaDoor.Sha
