/- Lemmas, walks and printed functions for the claim. -/
import Derived.Test.YtjbcfdgnafmbkaaDoorSDOM1
import Derived.Test.YtjbcfdgnafmbkaaDoorSDOM2
import Derived.Test.YtjbcfdgnafmbkaaDoorSDOM13
import Derived.Test.YtjbcfdgnafmbkaaDoorSDOM14
import Derived.Deep.RegionHeld3
import Derived.Laws.IdiomStrings
import Derived.Lib.AppendStr
section
set_option linter.unusedVariables false
namespace Go.Proofs.YtjbcfdgnafmbkaaDoor.Sha
open Go.RowKit Go.Proofs.YtjbcfdgnafmbkaaDoor Go.Proofs.YtjbcfdgnafmbkaaDoorW.PrintWords
theorem und22 : Tryd.prog.underlying 22 = some (.slice 5) := by kernel_rfl
theorem und3 : Tryd.prog.underlying 3 = some (.int .i64) := by kernel_rfl
theorem inf5 : (Tryd.prog.info? 5).map (fun i => (i.zero, i.size, i.bytes)) = some (some (.int .u8 0), 1, 1) := by kernel_rfl
theorem grow_c (n : Nat) (hn : n ≤ 70368744177664) (w : World) :
    Calls Tryd.prog 97 #[.slice none 0 0, .int .i64 n] w fun e w' => ∃ v, e = .returned v ∧ Kd.R (Kd.int .u8) 5 w' w.heap.size (fun _ => True) v [] ∧ Below w.heap.size w w' := by
  have t0 : decide ((n : Int) < 0) = false := decide_eq_false (by omega)
  by_cases h0 : 0 < n
  · have t1 : decide ((0 : Int) < (n : Int)) = true := decide_eq_true (by omega)
    go_enter Tryd.func97, Tryd.ntmps97
    go_wp2_with (at_builtin; refine Kd.R_append_zeros (Kd.int .u8) (w0 := w) w.heap.size rfl (.tmp 20) (.tmp 21) 22 3 5 (.int .u8 0) 1 rfl und22 und3 inf5 rfl (by decide) (by omega) (.slice none 0 0) [] 0 (n : Int) (fun _ => True) rfl rfl rfl (fun _ _ => trivial) (Kd.R_nil _ _ _ _ _) (by omega) (Below.refl _ _) (Nat.le_refl _) (by simp; omega) ?_; intro v1 w1 hR hb hg hat; obtain ⟨g, cap, rfl, hgb, hglt, hgc⟩ := Kd.R_form hR (by simp; omega); have hRR := Lib.hid hR; have hbb := Lib.hid hb; clear hR hb hg hat hgc)
    go_ret
    exact ⟨_, rfl, by simpa using Kd.R_take (m := 0) hRR.out (Nat.zero_le _), hbb.out⟩
  · have : n = 0 := by omega
    subst this
    go_enter Tryd.func97, Tryd.ntmps97
    go_wp2
    go_ret
    exact ⟨_, rfl, Kd.R_nil _ _ _ _ _, Below.refl _ _⟩
set_option maxHeartbeats 1000000 in
theorem concat_c (V n1 n2 c1 c2 : Nat) (A1 A2 : Option Addr) (xs ys : List Int) (w : World) (hV : Arr w V 22 [.slice A1 n1 c1, .slice A2 n2 c2])
    (h1 : Kd.C (Kd.int .u8) w A1 n1 xs) (h2 : Kd.C (Kd.int .u8) w A2 n2 ys) (hn1 : n1 ≤ 35184372088832) (hn2 : n2 ≤ 35184372088832) :
    Calls Tryd.prog 58 #[.slice (some ⟨V, 0, none⟩) 2 2] w fun e w' => ∃ v, e = .returned v ∧ Kd.R (Kd.int .u8) 5 w' w.heap.size (fun _ => True) v (xs ++ ys) ∧ Below w.heap.size w w' := by
  have l1 : xs.length = n1 := h1.1
  have l2 : ys.length = n2 := h2.1
  have q0 : w.cell? ⟨V, 0, none⟩ = some (.slice A1 n1 c1) := hV.cell rfl
  have q1 : w.cell? ⟨V, 1, none⟩ = some (.slice A2 n2 c2) := hV.cell rfl
  have t1 : decide ((n1 : Int) < 0) = false := decide_eq_false (by omega)
  have e2 : IntKind.i64.wrap ((n1 : Int) + n2) = ((n1 + n2 : Nat) : Int) := by rw [IntKind.wrap_i64]; omega
  have t2 : decide (((n1 + n2 : Nat) : Int) < 0) = false := decide_eq_false (by omega)
  have H1 := Lib.hid h1
  have H2 := Lib.hid h2
  have HVV := Lib.hid hV
  clear h1 h2 hV
  go_enter Tryd.func58, Tryd.ntmps58
  go_wp2
  refine wp_loop_rounds 3 ?_; rw [rounds_succ]
  go_wp2
  rw [rounds_succ]
  go_wp2
  rw [rounds_succ]
  go_wp2_with fail
  rw [show ((n1 : Int) + n2) = ((n1 + n2 : Nat) : Int) from by omega]
  refine (grow_c (n1 + n2) (by omega) w).mono ?_
  rintro e w1 ⟨v0, rfl, hR0, hb0⟩
  clear t1 e2 t2 q0 q1
  have hV1 := HVV.out.below hb0 HVV.out.lt
  have q0 : w1.cell? ⟨V, 0, none⟩ = some (.slice A1 n1 c1) := hV1.cell rfl
  have hC1 := Kd.C_below H1.out hb0
  have HR0 := Lib.hid hR0
  have HB0 := Lib.hid hb0
  have HC1 := Lib.hid hC1
  have hs1 := hb0.size
  clear hV1 hR0 hb0 hC1
  go_wp2
  refine wp_loop_rounds 3 ?_; rw [rounds_succ]
  go_wp2_with (at_builtin; refine Kd.R_append_rows (Kd.int .u8) (w0 := w) w.heap.size rfl (.tmp 31) (.tmp 32) 22 5 (.int .u8 0) 1 rfl und22 inf5 rfl (by decide) (by omega) v0 [] xs A1 n1 c1 (fun _ => True) (fun _ => False) rfl rfl HR0.out HC1.out (fun _ _ h => h) (fun _ h => h.elim) (fun _ _ => trivial) HB0.out hs1 (by simp; omega) ?_; intro v1 w2 hR1 hb1 hg1 hat1; have HR1 := Lib.hid hR1; have HB1 := Lib.hid hb1; have hs2 := hb1.size; have hV2 := HVV.out.below hb1 HVV.out.lt; have q1 := hV2.cell (j := 1) rfl; clear hR1 hb1 hg1 hat1 hV2 q0)
  rw [rounds_succ]
  have hC2 := Kd.C_below H2.out HB1.out
  have HC2 := Lib.hid hC2
  clear hC2
  go_wp2_with (at_builtin; refine Kd.R_append_rows (Kd.int .u8) (w0 := w) w.heap.size rfl (.tmp 31) (.tmp 32) 22 5 (.int .u8 0) 1 rfl und22 inf5 rfl (by decide) (by omega) v1 ([] ++ xs) ys A2 n2 c2 (fun _ => True) (fun _ => False) rfl rfl HR1.out HC2.out (fun _ _ h => h) (fun _ h => h.elim) (fun _ _ => trivial) HB1.out hs2 (by simp; omega) ?_; intro v2 w3 hR2 hb2 hg2 hat2; have HR2 := Lib.hid hR2; have HB2 := Lib.hid hb2; clear hR2 hb2 hg2 hat2 q1)
  rw [rounds_succ]
  go_wp2
  go_ret
  exact ⟨_, rfl, HR2.out, HB2.out⟩
end Go.Proofs.YtjbcfdgnafmbkaaDoor.Sha
end
section
set_option linter.unusedVariables false
namespace Go.Proofs.YtjbcfdgnafmbkaaDoor.Sha
open Go.RowKit Go.Proofs.YtjbcfdgnafmbkaaDoor Go.Proofs.YtjbcfdgnafmbkaaDoorW.PrintWords
def toI (l : List Nat) : List Int := l.map fun (x : Nat) => (x : Int)
def strL (s : ByteArray) : List Nat := s.data.toList.map UInt8.toNat
theorem toI_length (l : List Nat) : (toI l).length = l.length := List.length_map _
theorem strL_length (s : ByteArray) : (strL s).length = s.size := by simp [strL]
theorem strL_lt (s : ByteArray) : ∀ x ∈ strL s, x < 256 := by
  intro x hx
  obtain ⟨b, _, rfl⟩ := List.mem_map.1 hx
  exact b.toNat_lt
theorem toI_append (a b : List Nat) : toI (a ++ b) = toI a ++ toI b := List.map_append
theorem byt_of_C {w : World} {A : Option Addr} {n : Nat} {l : List Nat} (h : Kd.C (Kd.int .u8) w A n (toI l)) (hl : ∀ x ∈ l, x < 256) : Byt w A l := by
  obtain ⟨h1, h2, h3⟩ := h
  refine ⟨hl, fun hp => ?_⟩
  rw [toI_length] at h1
  obtain ⟨ad, hA, hc⟩ := h3 (by omega)
  have hget : ∀ j, j < l.length → w.cell? (ad.add j) = some (.int .u8 (l.getD j 0 : Nat)) := fun j hj => by
    obtain ⟨c, e1, e2, e3⟩ := hc j ((l.getD j 0 : Nat) : Int) (by simp [toI, List.getElem?_map, List.getElem?_eq_getElem hj, List.getD_eq_getElem?_getD])
    have e2 : c = [.int .u8 ((l.getD j 0 : Nat) : Int)] := e2
    have := e3 0 (.int .u8 ((l.getD j 0 : Nat) : Int)) (by rw [e2]; rfl)
    have hz : (Kd.int .u8).sz = 1 := rfl
    rw [hz, Nat.mul_one, Nat.add_zero] at this
    exact this
  have hs : ad.spot = none := by
    have := hget 0 hp
    rw [show ad.add 0 = ad from rfl] at this
    unfold World.cell? at this
    cases hsp : ad.spot with
    | none => rfl
    | some k => rw [hsp] at this; split at this <;> simp at this
  obtain ⟨b, o, s⟩ := ad
  cases hs
  refine ⟨b, o, hA, fun j hj => ?_⟩
  have := hget j hj
  rw [show (⟨b, o, none⟩ : Addr).add j = ⟨b, o + j, none⟩ from by unfold Addr.add; split <;> simp_all] at this
  exact this
theorem C_of_arr {w : World} {T : Nat} {t : TypeId} {l : List Nat} (h : Arr w T t (ints .u8 l)) (hl : l.length ≤ 9223372036854775807) : Kd.C (Kd.int .u8) w (some ⟨T, 0, none⟩) l.length (toI l) := by
  refine ⟨toI_length l, hl, fun _ => ⟨_, rfl, fun j p hj => ?_⟩⟩
  have hjl : j < l.length := by have := (List.getElem?_eq_some_iff.1 hj).1; rwa [toI_length] at this
  refine ⟨[.int .u8 p], rfl, rfl, fun i u hu => ?_⟩
  have hp : p = (l.getD j 0 : Nat) := by
    simp only [toI, List.getElem?_map, List.getElem?_eq_getElem hjl, Option.map_some, Option.some.injEq] at hj
    rw [← hj, List.getD_eq_getElem?_getD, List.getElem?_eq_getElem hjl]; rfl
  match i, hu with
  | 0, hu =>
    cases hu
    show w.cell? ((⟨T, 0, none⟩ : Addr).add (j * 1 + 0)) = _
    rw [Nat.mul_one, Nat.add_zero, add_at, Nat.zero_add, hp]
    exact h.cell (ints_get .u8 l hjl)
theorem cells_string (w : World) (s : ByteArray) (g : Nat) (c : Nat) (fr : Nat × Nat) (h : w.heap[g]? = some (.cells (bytesRow s c) 5 fr)) : Byt w (some ⟨g, 0, none⟩) (strL s) := by
  refine ⟨strL_lt s, fun _ => ⟨g, 0, rfl, fun j hj => ?_⟩⟩
  have hj' : j < s.data.size := by rw [strL_length] at hj; exact hj
  simp only [World.cell?, h]
  rw [Nat.zero_add]
  have := bytesRow_at s c j hj'
  simp only [Option.isSome_none, Bool.false_eq_true, if_false]
  rw [this]
  simp only [strL, List.getD_eq_getElem?_getD, List.getElem?_map, Array.getElem?_toList, Array.getElem?_eq_getElem hj', Option.map_some, Option.getD_some]
theorem R_cap {α : Type} {d : Kd α} {e : Nat} {w : World} {base : Nat} {ok : Nat → Prop} {A : Option Addr} {n c : Nat} {xs : List α} (h : d.R e w base ok (.slice A n c) xs) : c ≤ 9223372036854775807 := by
  obtain ⟨inner, ho⟩ := Kd.R_own h
  rcases ho.2 with ⟨e1, _⟩ | ⟨g, cap, cur, e1, _, _, _, hm, _⟩
  · injection e1 with _ _ e3; omega
  · injection e1 with _ _ e3; rw [e3]; exact hm
set_option maxHeartbeats 1000000 in
theorem tagged_c (tag : ByteArray) (A : Option Addr) (cap : Nat) (l : List Nat) (w : World) (hC : Kd.C (Kd.int .u8) w A l.length (toI l)) (hl : ∀ x ∈ l, x < 256) (hs1 : tag.size ≤ 1099511627776) (hs2 : l.length ≤ 1099511627776) (hL : Laid w) (h2 : 2 ≤ w.heap.size) :
    Calls Tryd.prog 22 #[.string tag, .slice A l.length cap] w fun e w' => e = .returned (.agg (ints .u8 (tagged (strL tag) l)).toArray) ∧ w.grownBy w' none := by
  have HC := Lib.hid hC
  have HL := Lib.hid hL
  have HB := Lib.hid hl
  clear hC hL hl
  have hconv : ∀ W : World, (convert 9 22 (.string tag)).run Tryd.prog W = .ok (.slice (some ⟨W.heap.size, 0, none⟩) tag.size (grownCap W tag.size 0 5))
      (W.drew.alloc (.cells (bytesRow tag (grownCap W tag.size 0 5)) 5 ((bytesRow tag (grownCap W tag.size 0 5)).size, (bytesRow tag (grownCap W tag.size 0 5)).size + 1))) :=
    fun W => run_bytes_of_string W 9 22 5 tag (by kernel_rfl) und22 (by kernel_rfl)
  go_enter Tryd.func22, Tryd.ntmps22
  go_wp2_with fail
  generalize hW1 : w.alloc _ = W1
  have hD1 : Arr W1 w.heap.size 30 (ints .u8 (List.replicate 32 0)) := by rw [← hW1]; exact Arr.new w 30 (ints .u8 (List.replicate 32 0))
  have hg1 : w.grownBy W1 none := by rw [← hW1]; exact World.grownBy_alloc w _ none
  have hz1 : W1.heap.size = w.heap.size + 1 := by rw [← hW1]; simp
  clear hW1 hconv
  rw [← hz1]
  generalize hcap : grownCap W1 tag.size 0 5 = cp
  have hcp1 : tag.size ≤ cp := by rw [← hcap]; exact grownCap_ge _ _ _ _
  have hcp2 : cp ≤ 9223372036854775807 := by rw [← hcap]; exact grownCap_le_maxLen _ _ _ _ (by simp only [maxLen]; omega)
  clear hcap
  have hT2 := World.alloc_heap_new W1 (.cells (bytesRow tag cp) 5 ((bytesRow tag cp).size, (bytesRow tag cp).size + 1))
  have hg2 := World.grownBy_alloc W1 (.cells (bytesRow tag cp) 5 ((bytesRow tag cp).size, (bytesRow tag cp).size + 1)) none
  have hg3 := grown_drew (grownBy_trans hg1 hg2)
  have hby := cells_string (W1.alloc (.cells (bytesRow tag cp) 5 ((bytesRow tag cp).size, (bytesRow tag cp).size + 1))).drew tag W1.heap.size cp _ hT2
  have hD2 : Arr (W1.alloc (.cells (bytesRow tag cp) 5 ((bytesRow tag cp).size, (bytesRow tag cp).size + 1))).drew w.heap.size 30 (ints .u8 (List.replicate 32 0)) := (hD1.alloc _).drew
  generalize (W1.alloc (.cells (bytesRow tag cp) 5 ((bytesRow tag cp).size, (bytesRow tag cp).size + 1))).drew = W2 at *
  clear hT2 hg2 hg1 hD1
  rw [← strL_length tag]
  refine (sum_c (some ⟨W1.heap.size, 0, none⟩) cp (strL tag) W2 hby (by rw [strL_length]; exact hcp1) hcp2 (by rw [strL_length]; omega) (HL.out.grown hg3 (by simp)) (by have := hg3.size; omega)).mono ?_
  rintro e w3 ⟨rfl, hg4⟩
  have hD3 := hD2.kept hg4 (by simp)
  have hg5 := grownBy_trans hg3 hg4
  have hw3 := hg5.size
  have hDl := hD3.lt
  clear hby hD2 hg3 hg4
  rw [strL_length tag]
  have hvz : (Tryd.prog.info? 30).map (·.size) = some (ints .u8 (sum (strL tag))).toArray.size := by rw [List.size_toArray, ints_length, sum, bytes_length]; kernel_rfl
  have hvo : (ints .u8 (sum (strL tag))).toArray.all (·.oneCell') = true := by simp [ints, Value.oneCell']
  have hv32 : (ints .u8 (List.replicate 32 0)).toArray.size = (ints .u8 (sum (strL tag))).toArray.size := by rw [List.size_toArray, List.size_toArray, ints_length, ints_length, sum, bytes_length, List.length_replicate]
  have HVZ := Lib.hid hvz
  have HVO := Lib.hid hvo
  have HV32 := Lib.hid hv32
  clear hvz hvo hv32
  go_wp2_with (refine wpList_store_row rfl 30 (.tmp 5) (.tmp 8) rfl w3.heap.size (ints .u8 (sum (strL tag))).toArray rfl rfl 30 (ints .u8 (List.replicate 32 0)).toArray (Arr.new w3 30 (ints .u8 (List.replicate 32 0))) HVZ.out HV32.out HVO.out ?_)
  generalize hW4 : World.setRow _ _ _ = W4
  have hA3 : Arr (w3.alloc (.cells (ints .u8 (List.replicate 32 0)).toArray 30)) w3.heap.size 30 (ints .u8 (List.replicate 32 0)) := Arr.new w3 30 _
  have hT4 : Arr W4 w3.heap.size 30 (ints .u8 (sum (strL tag))) := by rw [← hW4]; exact setRow_heap _ _ _ _ _ _ hA3
  have hD4 : Arr W4 w.heap.size 30 (ints .u8 (List.replicate 32 0)) := by rw [← hW4]; exact (hD3.alloc _).below (below_setRow (Below.refl w3.heap.size _) (Nat.le_refl _) _) hDl
  have hg6 : w.grownBy W4 none := by rw [← hW4]; exact grown_below (grown_alloc hg5 _) (below_setRow (Below.refl w.heap.size _) hw3 _) (Nat.le_refl _)
  have hz4 : W4.heap.size = w3.heap.size + 1 := by rw [← hW4]; simp [World.setRow]
  rw [← hz4]
  generalize hW5 : W4.alloc _ = W5
  have hV5 : Arr W5 W4.heap.size 22 [.slice (some ⟨w3.heap.size, 0, none⟩) 32 32, .slice A l.length cap] := by rw [← hW5]; exact Arr.new W4 22 _
  have hT5 : Arr W5 w3.heap.size 30 (ints .u8 (sum (strL tag))) := by rw [← hW5]; exact hT4.alloc _
  have hD5 : Arr W5 w.heap.size 30 (ints .u8 (List.replicate 32 0)) := by rw [← hW5]; exact hD4.alloc _
  have hg7 : w.grownBy W5 none := by rw [← hW5]; exact grown_alloc hg6 _
  clear hW4 hW5 hA3 hT4 hD4 hg6 hD3 hg5
  have hl32 : (sum (strL tag)).length = 32 := bytes_length _
  have hC1 : Kd.C (Kd.int .u8) W5 (some ⟨w3.heap.size, 0, none⟩) 32 (toI (sum (strL tag))) := by
    have := C_of_arr hT5 (by rw [hl32]; decide)
    rw [hl32] at this; exact this
  have hC2 := Kd.C_below HC.out (below_of_grown (Below.refl _ _) hg7 (Nat.le_refl _) (by simp))
  refine (concat_c W4.heap.size 32 l.length 32 cap (some ⟨w3.heap.size, 0, none⟩) A (toI (sum (strL tag))) (toI l) W5 hV5 hC1 hC2 (by decide) (by omega)).mono ?_
  rintro e w6 ⟨v, rfl, hR6, hb6⟩
  have hD6 := hD5.below hb6 hD5.lt
  have hg8 := grown_below hg7 hb6 hg7.size
  clear hV5 hT5 hD5 hC1 hC2 hg7 hb6
  rw [← toI_append] at hR6
  obtain ⟨A6, c6, rfl, hc6, hr6⟩ := Kd.R_reads hR6
  have hcap6 : c6 ≤ 9223372036854775807 := R_cap hR6
  rw [toI_length] at hc6 hr6 ⊢
  have hlt6 : ∀ x ∈ sum (strL tag) ++ l, x < 256 := by
    intro x hx
    rcases List.mem_append.1 hx with hx | hx
    · exact bytes_lt _ x hx
    · exact HB.out x hx
  have hby6 := byt_of_C hr6 hlt6
  have HBY := Lib.hid hby6
  clear hR6 hr6 hby6 hlt6
  obtain ⟨n6, hn6⟩ : ∃ n, n = (sum (strL tag) ++ l).length := ⟨_, rfl⟩
  rw [← hn6] at hc6 ⊢
  have HN6 := Lib.hid hn6
  clear hn6
  go_wp2_with fail
  rw [HN6.out] at hc6 ⊢
  refine (sum_c A6 c6 (sum (strL tag) ++ l) w6 HBY.out hc6 hcap6 (by rw [List.length_append, hl32]; omega) (HL.out.grown hg8 (by simp)) (by have := hg8.size; omega)).mono ?_
  rintro e w7 ⟨rfl, hg9⟩
  have hD7 := hD6.kept hg9 (by simp)
  have hg10 := grownBy_trans hg8 hg9
  clear hD6 hg8 hg9 HBY HVZ HVO HV32
  have hvz : (Tryd.prog.info? 30).map (·.size) = some (ints .u8 (sum (sum (strL tag) ++ l))).toArray.size := by rw [List.size_toArray, ints_length, sum, bytes_length]; kernel_rfl
  have hvo : (ints .u8 (sum (sum (strL tag) ++ l))).toArray.all (·.oneCell') = true := by simp [ints, Value.oneCell']
  have hv32 : (ints .u8 (List.replicate 32 0)).toArray.size = (ints .u8 (sum (sum (strL tag) ++ l))).toArray.size := by rw [List.size_toArray, List.size_toArray, ints_length, ints_length, sum, bytes_length, List.length_replicate]
  have HVZ := Lib.hid hvz
  have HVO := Lib.hid hvo
  have HV32 := Lib.hid hv32
  have HD7 := Lib.hid hD7
  clear hvz hvo hv32 hD7
  go_wp2_with (refine wpList_store_row rfl 30 (.tmp 4) (.tmp 13) rfl w.heap.size (ints .u8 (sum (sum (strL tag) ++ l))).toArray rfl rfl 30 (ints .u8 (List.replicate 32 0)).toArray HD7.out HVZ.out HV32.out HVO.out ?_)
  have hfin : ints .u8 (tagged (strL tag) l) = ints .u8 (sum (sum (strL tag) ++ l)) := by rw [tagged]
  rw [hfin]
  generalize ints .u8 (sum (sum (strL tag) ++ l)) = vs at *
  have hset := setRow_heap w7 w.heap.size (ints .u8 (List.replicate 32 0)).toArray vs.toArray 30 (0, 0) HD7.out
  have hgf := grown_below hg10 (below_setRow (Below.refl w.heap.size w7) (Nat.le_refl w.heap.size) vs.toArray) (Nat.le_refl _)
  generalize World.setRow _ _ _ = w8 at *
  exact bodyPost_ret (v := .agg vs.toArray) (results_cell_row rfl _ _ w.heap.size 30 vs.toArray (0, 0) (.array 32 5) rfl hset (by kernel_rfl) rfl HVZ.out) rfl ⟨rfl, hgf⟩
end Go.Proofs.YtjbcfdgnafmbkaaDoor.Sha
end
section
set_option linter.unusedVariables false
namespace Go.Proofs.YtjbcfdgnafmbkaaDoor.Sha
open Go.RowKit Go.Proofs.YtjbcfdgnafmbkaaDoor Go.Proofs.YtjbcfdgnafmbkaaDoorW.PrintWords
def num8 (d : List Nat) : Nat :=
  (((((((d.getD 0 0 % 128 * 256 + d.getD 1 0) * 256 + d.getD 2 0) * 256 + d.getD 3 0) * 256 + d.getD 4 0) * 256 + d.getD 5 0) * 256 + d.getD 6 0) * 256 + d.getD 7 0)
def hashN (tag l : List Nat) : Nat := num8 (tagged tag l) % 1073741789
theorem tagged_length (tag l : List Nat) : (tagged tag l).length = 32 := bytes_length _
theorem tagged_lt (tag l : List Nat) : ∀ x ∈ tagged tag l, x < 256 := bytes_lt _
theorem getD_lt {l : List Nat} (h : ∀ x ∈ l, x < 256) (i : Nat) : l.getD i 0 < 256 := by
  rw [List.getD_eq_getElem?_getD]
  by_cases hi : i < l.length
  · rw [List.getElem?_eq_getElem hi]; exact h _ (List.getElem_mem hi)
  · rw [List.getElem?_eq_none (by omega)]; decide
theorem and127 (x : Nat) (h : x < 256) : bits .and .u8 (x : Int) 127 = ((x % 128 : Nat) : Int) := by
  have := u8_and_nat x 127 h (by decide)
  rw [show ((127 : Nat) : Int) = 127 from rfl] at this
  rw [this, show (127 : Nat) = 2 ^ 7 - 1 from rfl, Nat.and_two_pow_sub_one_eq_mod]
theorem i64_or_nat (a b : Nat) (ha : a < 9223372036854775808) (hb : b < 9223372036854775808) : bits .or .i64 (a : Int) (b : Int) = ((a ||| b : Nat) : Int) := by
  have hx : a ||| b < 2 ^ 63 := Nat.or_lt_two_pow (by omega) (by omega)
  show IntKind.i64.wrap ((BitVec.ofInt 64 (a : Int) ||| BitVec.ofInt 64 (b : Int)).toNat : Int) = _
  rw [BitVec.toNat_or, ofInt_u64 a (by omega), ofInt_u64 b (by omega), IntKind.wrap_i64]
  omega
theorem shl8i (n c : Nat) (hn : n < 36028797018963968) (hc : c < 256) : bits .or .i64 ((n : Int) * 256) c = ((n * 256 + c : Nat) : Int) := by
  have := i64_or_nat (n * 256) c (by omega) (by omega)
  rw [show ((n : Int) * 256) = ((n * 256 : Nat) : Int) by simp, this, show n * 256 ||| c = n * 256 + c from by
    rw [show (256 : Nat) = 2 ^ 8 from rfl, Nat.mul_comm, Nat.two_pow_add_eq_or_of_lt hc]]
set_option maxHeartbeats 1000000 in
set_option maxRecDepth 100000 in
theorem hash_c (tag : ByteArray) (A : Option Addr) (cap : Nat) (l : List Nat) (w : World) (hC : Kd.C (Kd.int .u8) w A l.length (toI l)) (hl : ∀ x ∈ l, x < 256) (hs1 : tag.size ≤ 1099511627776) (hs2 : l.length ≤ 1099511627776) (hL : Laid w) (h2 : 2 ≤ w.heap.size) :
    Calls Tryd.prog 20 #[.string tag, .slice A l.length cap] w fun e w' => e = .returned (.int .i64 (hashN (strL tag) l)) ∧ w.grownBy w' none := by
  have ht := tagged_c tag A cap l w hC hl hs1 hs2 hL h2
  have HT := Lib.hid ht
  clear ht hC hl hL h2
  go_enter Tryd.func20, Tryd.ntmps20
  go_wp2_with fail
  refine HT.out.mono ?_
  rintro e w1 ⟨rfl, hg1⟩
  have HH : Hid (hashN (strL tag) l = num8 (tagged (strL tag) l) % 1073741789) := Lib.hid rfl
  have hdl := tagged_length (strL tag) l
  have hdb := tagged_lt (strL tag) l
  generalize tagged (strL tag) l = D at *
  have hvz : (Tryd.prog.info? 30).map (·.size) = some (ints .u8 D).toArray.size := by rw [List.size_toArray, ints_length, hdl]; kernel_rfl
  have hvo : (ints .u8 D).toArray.all (·.oneCell') = true := by simp [ints, Value.oneCell']
  have hv32 : (ints .u8 (List.replicate 32 0)).toArray.size = (ints .u8 D).toArray.size := by rw [List.size_toArray, List.size_toArray, ints_length, ints_length, hdl, List.length_replicate]
  have hset := setRow_heap (w1.alloc (.cells (ints .u8 (List.replicate 32 0)).toArray 30)) w1.heap.size (ints .u8 (List.replicate 32 0)).toArray (ints .u8 D).toArray 30 (0, 0) (Arr.new w1 30 (ints .u8 (List.replicate 32 0)))
  have hgf := grown_below (grown_alloc hg1 (.cells (ints .u8 (List.replicate 32 0)).toArray 30)) (below_setRow (Below.refl w.heap.size _) hg1.size (ints .u8 D).toArray) (Nat.le_refl _)
  have HS := Lib.hid hset
  have HG := Lib.hid hgf
  have HVZ := Lib.hid hvz
  have HVO := Lib.hid hvo
  have HV32 := Lib.hid hv32
  have hg1s := hg1.size
  clear hvz hvo hv32 hset hgf hg1
  have gD := fun j => getD_lt hdb j
  have hd0 : bits .and .u8 ((D.getD 0 0 : Nat) : Int) 127 = ((D.getD 0 0 % 128 : Nat) : Int) := and127 _ (gD 0)
  have HD0 := Lib.hid hd0
  have HDL := Lib.hid hdl
  have HGD := Lib.hid gD
  clear hd0 hdl hdb gD
  go_wp2_with (refine wpList_store_row rfl 30 (.tmp 5) (.tmp 9) rfl w1.heap.size (ints .u8 D).toArray rfl rfl 30 (ints .u8 (List.replicate 32 0)).toArray (Arr.new w1 30 (ints .u8 (List.replicate 32 0))) HVZ.out HV32.out HVO.out ?_; generalize hW : World.setRow _ _ _ = w2; have hA2 : Arr w2 w1.heap.size 30 (ints .u8 D) := (by rw [← hW]; exact HS.out); have HG2 : Hid (w.grownBy w2 none) := Lib.hid (by rw [← hW]; exact HG.out); clear HS HG hW HVZ HVO HV32; have c0 := hA2.cell (ints_get .u8 D (j := 0) (by rw [HDL.out]; decide)); have f0 := hA2.frozen 0; have hA3 := hA2.set 0 (.int .u8 ((D.getD 0 0 % 128 : Nat) : Int)); rw [ints_set] at hA3; have HA3 := Lib.hid hA3; have hd0 := HD0.out; generalize hx0 : D.getD 0 0 = x0 at *; clear hA2 hA3)
  generalize hW3 : w2.setCell _ _ = w3
  have hA3 : Arr w3 w1.heap.size 30 (ints .u8 (D.set 0 (x0 % 128))) := by rw [← hW3]; exact HA3.out
  have hG3 : w.grownBy w3 none := by rw [← hW3]; exact grown_new HG2.out hg1s _ _
  clear hW3 HA3 HG2 c0 f0
  have hl := fun j (hj : j < 32) => hA3.cell (ints_get .u8 (D.set 0 (x0 % 128)) (j := j) (by rw [List.length_set, HDL.out]; exact hj))
  have d0 := hl 0 (by decide)
  have d1 := hl 1 (by decide)
  have d2 := hl 2 (by decide)
  have d3 := hl 3 (by decide)
  have d4 := hl 4 (by decide)
  have d5 := hl 5 (by decide)
  have d6 := hl 6 (by decide)
  have d7 := hl 7 (by decide)
  clear hl
  rw [getD_set, if_pos (by rw [HDL.out]; decide)] at d0
  rw [getD_set, if_neg (fun h => absurd h.1 (by decide))] at d1 d2 d3 d4 d5 d6 d7
  have HR : Hid (hashN (strL tag) l = (((((((x0 % 128 * 256 + D.getD 1 0) * 256 + D.getD 2 0) * 256 + D.getD 3 0) * 256 + D.getD 4 0) * 256 + D.getD 5 0) * 256 + D.getD 6 0) * 256 + D.getD 7 0) % 1073741789) := Lib.hid (by rw [HH.out, ← hx0]; rfl)
  have g1 := HGD.out 1; have g2 := HGD.out 2; have g3 := HGD.out 3; have g4 := HGD.out 4; have g5 := HGD.out 5; have g6 := HGD.out 6; have g7 := HGD.out 7
  generalize D.getD 1 0 = x1 at *
  generalize D.getD 2 0 = x2 at *
  generalize D.getD 3 0 = x3 at *
  generalize D.getD 4 0 = x4 at *
  generalize D.getD 5 0 = x5 at *
  generalize D.getD 6 0 = x6 at *
  generalize D.getD 7 0 = x7 at *
  clear HH hx0 HD0 hd0
  obtain ⟨y0, hy0⟩ : ∃ y, y = x0 % 128 := ⟨_, rfl⟩
  obtain ⟨y1, hy1⟩ : ∃ y, y = y0 * 256 + x1 := ⟨_, rfl⟩
  obtain ⟨y2, hy2⟩ : ∃ y, y = y1 * 256 + x2 := ⟨_, rfl⟩
  obtain ⟨y3, hy3⟩ : ∃ y, y = y2 * 256 + x3 := ⟨_, rfl⟩
  obtain ⟨y4, hy4⟩ : ∃ y, y = y3 * 256 + x4 := ⟨_, rfl⟩
  obtain ⟨y5, hy5⟩ : ∃ y, y = y4 * 256 + x5 := ⟨_, rfl⟩
  obtain ⟨y6, hy6⟩ : ∃ y, y = y5 * 256 + x6 := ⟨_, rfl⟩
  obtain ⟨y7, hy7⟩ : ∃ y, y = y6 * 256 + x7 := ⟨_, rfl⟩
  have b0 : y0 < 128 := by omega
  have b1 : y1 < 32768 := by omega
  have b2 : y2 < 8388608 := by omega
  have b3 : y3 < 2147483648 := by omega
  have b4 : y4 < 549755813888 := by omega
  have b5 : y5 < 140737488355328 := by omega
  have b6 : y6 < 36028797018963968 := by omega
  have b7 : y7 < 9223372036854775808 := by omega
  have p0 : bits .or .i64 0 ((x0 : Int) % 128) = (y0 : Int) := by
    have := i64_or_nat 0 y0 (by decide) (by omega)
    rw [Nat.zero_or] at this
    rw [show ((x0 : Int) % 128) = (y0 : Int) from by omega]; exact this
  have w11 : wrap64 ((y0 : Int) * 256) = (y0 : Int) * 256 := by unfold wrap64; omega
  have p1 : bits .or .i64 ((y0 : Int) * 256) x1 = (y1 : Int) := by rw [hy1]; exact shl8i y0 x1 (by omega) g1
  have w12 : wrap64 ((y1 : Int) * 256) = (y1 : Int) * 256 := by unfold wrap64; omega
  have p2 : bits .or .i64 ((y1 : Int) * 256) x2 = (y2 : Int) := by rw [hy2]; exact shl8i y1 x2 (by omega) g2
  have w13 : wrap64 ((y2 : Int) * 256) = (y2 : Int) * 256 := by unfold wrap64; omega
  have p3 : bits .or .i64 ((y2 : Int) * 256) x3 = (y3 : Int) := by rw [hy3]; exact shl8i y2 x3 (by omega) g3
  have w14 : wrap64 ((y3 : Int) * 256) = (y3 : Int) * 256 := by unfold wrap64; omega
  have p4 : bits .or .i64 ((y3 : Int) * 256) x4 = (y4 : Int) := by rw [hy4]; exact shl8i y3 x4 (by omega) g4
  have w15 : wrap64 ((y4 : Int) * 256) = (y4 : Int) * 256 := by unfold wrap64; omega
  have p5 : bits .or .i64 ((y4 : Int) * 256) x5 = (y5 : Int) := by rw [hy5]; exact shl8i y4 x5 (by omega) g5
  have w16 : wrap64 ((y5 : Int) * 256) = (y5 : Int) * 256 := by unfold wrap64; omega
  have p6 : bits .or .i64 ((y5 : Int) * 256) x6 = (y6 : Int) := by rw [hy6]; exact shl8i y5 x6 (by omega) g6
  have w17 : wrap64 ((y6 : Int) * 256) = (y6 : Int) * 256 := by unfold wrap64; omega
  have p7 : bits .or .i64 ((y6 : Int) * 256) x7 = (y7 : Int) := by rw [hy7]; exact shl8i y6 x7 (by omega) g7
  have HR2 : Hid (hashN (strL tag) l = y7 % 1073741789) := Lib.hid (by rw [HR.out, hy7, hy6, hy5, hy4, hy3, hy2, hy1, hy0])
  clear hy0 hy1 hy2 hy3 hy4 hy5 hy6 hy7 HR
  refine wp_loop_rounds 9 ?_; rw [rounds_succ]
  go_wp2
  rw [rounds_succ]
  go_wp2
  rw [rounds_succ]
  go_wp2
  rw [rounds_succ]
  go_wp2
  rw [rounds_succ]
  go_wp2
  rw [rounds_succ]
  go_wp2
  rw [rounds_succ]
  go_wp2
  rw [rounds_succ]
  go_wp2
  rw [rounds_succ]
  go_wp2
  go_ret
  exact ⟨by rw [HR2.out]; rfl, hG3⟩
end Go.Proofs.YtjbcfdgnafmbkaaDoor.Sha
end
section
set_option linter.unusedVariables false
namespace Go.Proofs.YtjbcfdgnafmbkaaDoor.Cod
open Go.RowKit Go.Proofs.YtjbcfdgnafmbkaaDoor Go.Proofs.YtjbcfdgnafmbkaaDoorW.PrintWords Go.Proofs.YtjbcfdgnafmbkaaDoor.PBig
def num (u : Nat) : List Nat := if u < 128 then [u] else (u % 128 + 128) :: num (u / 128)
termination_by u
decreasing_by omega
theorem num_small {u : Nat} (h : u < 128) : num u = [u] := by rw [num, if_pos h]
theorem num_big {u : Nat} (h : 128 ≤ u) : num u = (u % 128 + 128) :: num (u / 128) := by rw [num, if_neg (by omega)]
theorem num_length : ∀ (k u : Nat), u < 128 ^ (k + 1) → (num u).length ≤ k + 1
  | 0, u, h => by rw [num_small (by simpa using h)]; simp
  | k + 1, u, h => by
    by_cases hu : u < 128
    · rw [num_small hu]; simp
    · rw [num_big (by omega), List.length_cons]
      have := num_length k (u / 128) (by rw [Nat.pow_succ] at h; omega)
      omega
theorem num_len10 {u : Nat} (h : u < 18446744073709551616) : (num u).length ≤ 10 := num_length 9 u (Nat.lt_of_lt_of_le h (by decide))
theorem num_lt : ∀ (k u : Nat), u < 128 ^ (k + 1) → ∀ x ∈ num u, x < 256
  | 0, u, h, x, hx => by
    rw [num_small (by simpa using h)] at hx
    rw [List.mem_singleton.1 hx]; simp at h; omega
  | k + 1, u, h, x, hx => by
    by_cases hu : u < 128
    · rw [num_small hu] at hx
      rw [List.mem_singleton.1 hx]; omega
    · rw [num_big (by omega)] at hx
      rcases List.mem_cons.1 hx with rfl | hx
      · omega
      · exact num_lt k (u / 128) (by rw [Nat.pow_succ] at h; omega) x hx
def zz (n : Int) : Nat := if 0 ≤ n then (2 * n).toNat else (2 * (-(n + 1)) + 1).toNat
theorem zz_lt {n : Int} (h1 : -9223372036854775808 ≤ n) (h2 : n < 9223372036854775808) : zz n < 18446744073709551616 := by
  unfold zz; split <;> omega
def encF : Nat → S93 → List Nat
  | 0, _ => []
  | k + 1, x => if x.f0 = 1 then 1 :: num (zz x.f1) else if x.f0 = 2 then 2 :: (num x.f2.size ++ Sha.strL x.f2) else 3 :: (num x.f3.length ++ (x.f3.map (encF k)).flatten)
def okV : Nat → S93 → Prop
  | 0, _ => False
  | k + 1, x => -9223372036854775808 ≤ x.f1 ∧ x.f1 < 9223372036854775808 ∧ ((x.f0 = 1 ∧ x.f2 = ByteArray.empty ∧ x.f3 = []) ∨ (x.f0 = 2 ∧ x.f1 = 0 ∧ x.f3 = []) ∨ (x.f0 = 3 ∧ x.f1 = 0 ∧ x.f2 = ByteArray.empty ∧ ∀ y ∈ x.f3, okV k y))
def mxL (l : List Nat) : Nat := l.foldl max 0
theorem mxL_snoc (l : List Nat) (x : Nat) : mxL (l ++ [x]) = max (mxL l) x := by simp [mxL]
def dep : Nat → S93 → Nat
  | 0, _ => 0
  | k + 1, x => if x.f0 = 3 then mxL (x.f3.map (dep k)) + 1 else 0
theorem mxL_le {l : List Nat} {m : Nat} (h : ∀ x ∈ l, x ≤ m) : mxL l ≤ m := by
  unfold mxL
  suffices ∀ (l : List Nat) (a : Nat), a ≤ m → (∀ x ∈ l, x ≤ m) → l.foldl max a ≤ m from this l 0 (Nat.zero_le _) h
  intro l
  induction l with
  | nil => intro a ha _; exact ha
  | cons x l ih =>
    intro a ha hl
    rw [List.foldl_cons]
    exact ih _ (Nat.max_le.2 ⟨ha, hl x List.mem_cons_self⟩) (fun y hy => hl y (List.mem_cons_of_mem _ hy))
theorem dep_le : ∀ (k : Nat) (x : S93), dep k x ≤ k
  | 0, _ => Nat.le_refl _
  | k + 1, x => by
    rw [dep]
    split
    · have := mxL_le (l := x.f3.map (dep k)) (m := k) (fun y hy => by obtain ⟨z, _, rfl⟩ := List.mem_map.1 hy; exact dep_le k z)
      omega
    · omega
theorem take_snoc {α : Type} (l : List α) (i : Nat) (h : i < l.length) (d : α) : l.take (i + 1) = l.take i ++ [l.getD i d] := by
  rw [List.take_succ_eq_append_getElem h, List.getD_eq_getElem?_getD, List.getElem?_eq_getElem h]; rfl
theorem getD_mem {α : Type} (l : List α) (i : Nat) (h : i < l.length) (d : α) : l.getD i d ∈ l := by
  rw [List.getD_eq_getElem?_getD, List.getElem?_eq_getElem h]; exact List.getElem_mem h
end Go.Proofs.YtjbcfdgnafmbkaaDoor.Cod
end
section
set_option linter.unusedVariables false
namespace Go.Proofs.YtjbcfdgnafmbkaaDoor.Cod
open Go.RowKit Go.Proofs.YtjbcfdgnafmbkaaDoor Go.Proofs.YtjbcfdgnafmbkaaDoorW.PrintWords Go.Proofs.YtjbcfdgnafmbkaaDoor.PBig
def agg93 (x : S93) (A : Option Addr) (c : Nat) : Value := .agg #[.int .i64 x.f0, .int .i64 x.f1, .string x.f2, .slice A x.f3.length c]
theorem spot_none {w : World} {ad : Addr} {v : Value} (h : w.cell? ad = some v) : ad.spot = none := by
  unfold World.cell? at h
  cases hsp : ad.spot with
  | none => rfl
  | some k => rw [hsp] at h; split at h <;> simp at h
theorem add_none (b o j : Nat) : (⟨b, o, none⟩ : Addr).add j = ⟨b, o + j, none⟩ := by unfold Addr.add; split <;> simp_all
theorem el93 {w : World} {A : Option Addr} {xs : List S93} (h : Kd.C k93 w A xs.length xs) (hp : 0 < xs.length) :
    ∃ b o, A = some ⟨b, o, none⟩ ∧ ∀ i, i < xs.length → ∃ A3 c3, w.cell? ⟨b, o + i * 4, none⟩ = some (.int .i64 (xs.getD i z93).f0) ∧ w.cell? ⟨b, o + i * 4 + 1, none⟩ = some (.int .i64 (xs.getD i z93).f1) ∧
      w.cell? ⟨b, o + i * 4 + 2, none⟩ = some (.string (xs.getD i z93).f2) ∧ w.cell? ⟨b, o + i * 4 + 3, none⟩ = some (.slice A3 (xs.getD i z93).f3.length c3) ∧ (xs.getD i z93).f3.length ≤ c3 ∧ Kd.C k93 w A3 (xs.getD i z93).f3.length (xs.getD i z93).f3 := by
  obtain ⟨ad, hA, hc⟩ := h.2.2 hp
  have hs : ad.spot = none := by
    obtain ⟨cs, _, hK, hcell⟩ := hc 0 _ (List.getElem?_eq_getElem hp)
    obtain ⟨A3, c3, rfl, _, _⟩ := k93_open hK
    have := hcell 0 _ rfl
    rw [Nat.zero_mul, Nat.add_zero, show ad.add 0 = ad from rfl] at this
    exact spot_none this
  obtain ⟨b, o, s⟩ := ad
  cases hs
  refine ⟨b, o, hA, fun i hi => ?_⟩
  obtain ⟨cs, _, hK, hcell⟩ := hc i _ (List.getElem?_eq_getElem hi)
  rw [show xs.getD i z93 = xs[i] from by rw [List.getD_eq_getElem?_getD, List.getElem?_eq_getElem hi]; rfl]
  obtain ⟨A3, c3, rfl, h3, h4⟩ := k93_open hK
  have hsz : k93.sz = 4 := rfl
  rw [hsz] at hcell
  have e0 := hcell 0 _ rfl
  have e1 := hcell 1 _ rfl
  have e2 := hcell 2 _ rfl
  have e3 := hcell 3 _ rfl
  rw [add_none] at e0 e1 e2 e3
  exact ⟨A3, c3, e0, e1, e2, e3, h3, h4⟩
set_option maxHeartbeats 1000000 in
set_option maxRecDepth 100000 in
theorem formed_c (k : Nat) : ∀ (x : S93) (A : Option Addr) (c : Nat) (w : World), k ≤ 100 → okV k x → Kd.C k93 w A x.f3.length x.f3 → x.f3.length ≤ c →
    Calls Tryd.prog 125 #[agg93 x A c] w fun e w' => e = .returned (.tuple #[.int .i64 (dep k x), .bool true]) ∧ Below w.heap.size w w' := by
  induction k with
  | zero => exact fun _ _ _ _ _ h _ _ => h.elim
  | succ k ih =>
    intro x A c w hk hok hC hlc
    have IH := Lib.hid ih
    clear ih
    obtain ⟨b1, b2, hok⟩ := hok
    obtain ⟨x0, x1, x2, x3⟩ := x
    simp only at b1 b2 hok hC hlc
    unfold agg93
    rcases hok with ⟨rfl, rfl, rfl⟩ | ⟨rfl, rfl, rfl⟩ | ⟨rfl, rfl, rfl, hch⟩
    · have hd : Hid (dep (k + 1) ⟨1, x1, ByteArray.empty, []⟩ = 0) := Lib.hid (by rw [dep]; exact if_neg (by decide : ¬ (1 : Int) = 3))
      clear hC hlc IH
      simp only [List.length_nil]
      go_enter Tryd.func125, Tryd.ntmps125
      go_wp2
      all_goals (go_ret2; exact ⟨by rw [hd.out]; rfl, ((Below.refl _ _).alloc (Nat.le_refl _) _).alloc (by simp) _⟩)
    · have hd : Hid (dep (k + 1) ⟨2, 0, x2, []⟩ = 0) := Lib.hid (by rw [dep]; exact if_neg (by decide : ¬ (2 : Int) = 3))
      clear hC hlc IH
      simp only [List.length_nil]
      go_enter Tryd.func125, Tryd.ntmps125
      go_wp2
      all_goals (go_ret2; exact ⟨by rw [hd.out]; rfl, ((Below.refl _ _).alloc (Nat.le_refl _) _).alloc (by simp) _⟩)
    · have hd : Hid (dep (k + 1) ⟨3, 0, ByteArray.empty, x3⟩ = mxL (x3.map (dep k)) + 1) := Lib.hid (by rw [dep]; exact if_pos rfl)
      have HC := Lib.hid hC
      have HCH := Lib.hid hch
      clear hC hch
      have hl := HC.out.2.1
      go_enter Tryd.func125, Tryd.ntmps125
      go_wp2
      go_loopw [2, 57] (fun v2 v57 wr => ∃ i : Nat, i ≤ x3.length ∧ v57 = .int .i64 i ∧ v2 = .int .i64 (mxL ((x3.take i).map (dep k))) ∧ Below w.heap.size w wr) (fun _ v57 _ => x3.length - (intOf v57).toNat)
      case atStart => exact ⟨0, by omega, rfl, rfl, ((Below.refl _ _).alloc (Nat.le_refl _) _).alloc (by simp) _⟩
      case round =>
        obtain ⟨i, hi, rfl, rfl, hb⟩ := hrel
        by_cases hlt : i < x3.length
        · obtain ⟨b, o, rfl, hel⟩ := el93 (Kd.C_below HC.out hb) (by omega)
          obtain ⟨A3, c3, q0, q1, q2, q3, hl3, hC3⟩ := hel i hlt
          have hoy := HCH.out _ (getD_mem x3 i hlt z93)
          have hme := mxL_snoc ((x3.take i).map (dep k)) (dep k (x3.getD i z93))
          rw [show (x3.take i).map (dep k) ++ [dep k (x3.getD i z93)] = (x3.take (i + 1)).map (dep k) from by rw [take_snoc x3 i hlt z93, List.map_append]; rfl] at hme
          have hdk := dep_le k (x3.getD i z93)
          have hdm : mxL ((x3.take i).map (dep k)) ≤ k := mxL_le (fun y hy => by obtain ⟨z, _, rfl⟩ := List.mem_map.1 hy; exact dep_le k z)
          have HF := Lib.hid (fun w' h => IH.out (x3.getD i z93) A3 c3 w' (by omega) hoy h hl3)
          have HME := Lib.hid hme
          have HC3 := Lib.hid hC3
          clear hel hC3 hme hoy
          unfold agg93 at HF
          generalize x3.getD i z93 = y at *
          obtain ⟨y0, y1, y2, y3⟩ := y
          simp only at q0 q1 q2 q3 HF HC3 hl3
          generalize mxL ((x3.take i).map (dep k)) = m at *
          generalize dep k ⟨y0, y1, y2, y3⟩ = d at *
          go_wp2_with fail
          refine (HF.out _ (Kd.C_below HC3.out ((Below.refl _ wr).alloc (Nat.le_refl _) _))).mono ?_
          rintro e w' ⟨rfl, hb'⟩
          go_wp2
          go_roundw
          case rel => exact ⟨i + 1, by omega, by go_num, by rw [HME.out]; congr 1; split <;> omega, below_then (hb.alloc hb.size _) (by have := hb.size; simp; omega) hb'⟩
          case measure => simp [intOf]; omega
        · have : i = x3.length := by omega
          subst this
          have hdm : mxL ((x3.take x3.length).map (dep k)) ≤ k := mxL_le (fun y hy => by obtain ⟨z, _, rfl⟩ := List.mem_map.1 hy; exact dep_le k z)
          rw [List.take_length] at hdm ⊢
          go_wp2
          go_ret2
          exact ⟨by rw [hd.out]; simp, hb⟩
theorem check_c (k : Nat) (x : S93) (A : Option Addr) (c : Nat) (w : World) (hk : k ≤ 100) (hok : okV k x) (hC : Kd.C k93 w A x.f3.length x.f3) (hlc : x.f3.length ≤ c) (hd : dep k x ≤ 16) :
    Calls Tryd.prog 98 #[agg93 x A c] w fun e w' => e = .returned (.int .i64 0) ∧ Below w.heap.size w w' := by
  have HF := Lib.hid (fun w' h => formed_c k x A c w' hk hok h hlc)
  have HC := Lib.hid hC
  have t1 : decide ((16 : Int) < (dep k x : Int)) = false := decide_eq_false (by omega)
  generalize dep k x = d at *
  unfold agg93 at *
  clear hC hok
  go_enter Tryd.func98, Tryd.ntmps98
  go_wp2_with fail
  refine (HF.out _ (Kd.C_below HC.out ((Below.refl _ w).alloc (Nat.le_refl _) _))).mono ?_
  rintro e w' ⟨rfl, hb⟩
  go_wp2
  go_ret
  exact ⟨rfl, below_then ((Below.refl _ w).alloc (Nat.le_refl _) _) (by simp) hb⟩
end Go.Proofs.YtjbcfdgnafmbkaaDoor.Cod
end
section
set_option linter.unusedVariables false
namespace Go.Proofs.YtjbcfdgnafmbkaaDoor.Cod
open Go.RowKit Go.Proofs.YtjbcfdgnafmbkaaDoor Go.Proofs.YtjbcfdgnafmbkaaDoorW.PrintWords Go.Proofs.YtjbcfdgnafmbkaaDoor.PBig Go.Proofs.YtjbcfdgnafmbkaaDoor.PCu
def OwnB (W : World) (B : Nat) (v : Value) (xs : List Nat) : Prop := Kd.R (Kd.int .u8) 5 W B (fun _ => True) v (Sha.toI xs)
theorem und22 : Tryd.prog.underlying 22 = some (.slice 5) := by kernel_rfl
theorem inf5 : (Tryd.prog.info? 5).map (fun i => (i.zero, i.size, i.bytes)) = some (some (.int .u8 0), 1, 1) := by kernel_rfl
theorem compl64 (n : Nat) (h : n < 18446744073709551616) : n ^^^ 18446744073709551615 = 18446744073709551615 - n := by
  refine Nat.eq_of_testBit_eq fun i => ?_
  have h1 : 18446744073709551615 - n = 2 ^ 64 - (n + 1) := by omega
  rw [h1, Nat.testBit_xor, Nat.testBit_two_pow_sub_succ (show n < 2 ^ 64 from h), show (18446744073709551615 : Nat) = 2 ^ 64 - 1 from rfl, Nat.testBit_two_pow_sub_one]
  by_cases hi : i < 64
  · simp [hi]
  · have h2 : n.testBit i = false := Nat.testBit_lt_two_pow (Nat.lt_of_lt_of_le h (by
        have : (2 : Nat) ^ 64 ≤ 2 ^ i := Nat.pow_le_pow_right (by decide) (by omega)
        simpa using this))
    simp [hi, h2]
theorem unsigned_f (n : Int) (h1 : -9223372036854775808 ≤ n) (h2 : n < 9223372036854775808) : codec_unsigned.f n = some (zz n : Int) := by
  unfold codec_unsigned.f zz
  congr 1
  by_cases h : 0 ≤ n
  · have e1 : IntKind.u64.wrap (IntKind.u64.wrap n * 2) = (((2 * n).toNat : Nat) : Int) := by rw [IntKind.wrap_u64, IntKind.wrap_u64]; omega
    have e2 : IntKind.u64.wrap (n / 9223372036854775808) = ((0 : Nat) : Int) := by rw [IntKind.wrap_u64]; omega
    rw [e1, e2, u64_xor_nat _ _ (by omega) (by decide), if_pos h, Nat.xor_zero]
  · have e1 : IntKind.u64.wrap (IntKind.u64.wrap n * 2) = (((2 * n + 18446744073709551616).toNat : Nat) : Int) := by rw [IntKind.wrap_u64, IntKind.wrap_u64]; omega
    have e2 : IntKind.u64.wrap (n / 9223372036854775808) = ((18446744073709551615 : Nat) : Int) := by rw [IntKind.wrap_u64]; omega
    rw [e1, e2, u64_xor_nat _ _ (by omega) (by decide), if_neg h, compl64 _ (by omega)]
    omega
theorem unsigned_c (n : Int) (h1 : -9223372036854775808 ≤ n) (h2 : n < 9223372036854775808) (w : World) :
    Calls Tryd.prog 128 #[.int .i64 n] w fun e w' => e = .returned (.int .u64 (zz n)) ∧ ∃ m, w' = w.drewN m :=
  (codec_unsigned.calls n _ w (unsigned_f n h1 h2)).mono fun e w' ⟨h, k⟩ => ⟨h, k.out⟩
theorem or128 (u : Nat) (h : u < 18446744073709551616) : bits .or .u8 ((u : Int) % 256) 128 = ((u % 128 + 128 : Nat) : Int) := by
  rw [show ((u : Int) % 256) = ((u % 256 : Nat) : Int) from by omega]
  have := u8_or_nat (u % 256) 128 (Nat.mod_lt _ (by decide)) (by decide)
  rw [show ((128 : Nat) : Int) = 128 from rfl] at this
  rw [this]
  congr 1
  have e : u % 256 ||| 128 = 128 ||| u % 256 := Nat.or_comm _ _
  by_cases h2 : u % 256 < 128
  · have e2 := Nat.two_pow_add_eq_or_of_lt (i := 7) (b := u % 256) h2 1
    rw [e]
    simp only [Nat.reducePow, Nat.mul_one] at e2
    omega
  · have e3 : u % 256 = 128 + u % 128 := by omega
    have e2 := Nat.two_pow_add_eq_or_of_lt (i := 7) (b := u % 128) (Nat.mod_lt _ (by decide)) 1
    simp only [Nat.reducePow, Nat.mul_one] at e2
    rw [e, e3, e2, ← Nat.or_assoc, Nat.or_self, ← e2]
    omega
structure Upd (w : World) (v : Value) (w' : World) (v' : Value) : Prop where
  g : w.grownBy w' v.ownBlock
  at_ : v'.ownBlock = v.ownBlock ∨ ∃ b, v'.ownBlock = some b ∧ w.heap.size ≤ b
theorem Upd.refl (w : World) (v : Value) : Upd w v w v := ⟨grownBy_refl _ _, .inl rfl⟩
theorem Upd.trans {a b c : World} {u v x : Value} (h : Upd a u b v) (k : Upd b v c x) : Upd a u c x :=
  ⟨⟨k.g.os.trans h.g.os, k.g.tape.trans h.g.tape, k.g.output.trans h.g.output, Nat.le_trans h.g.size k.g.size, fun i hi hr =>
      (k.g.block i (Nat.lt_of_lt_of_le hi h.g.size) (fun e => by
        rcases h.at_ with e2 | ⟨b, e2, hb⟩
        · exact hr (e.trans e2)
        · rw [e2] at e; cases e; omega)).trans (h.g.block i hi hr)⟩,
    by
      rcases k.at_ with e | ⟨b, e, hb⟩
      · rcases h.at_ with e2 | ⟨b, e2, hb⟩
        · exact .inl (e.trans e2)
        · exact .inr ⟨b, e.trans e2, hb⟩
      · exact .inr ⟨b, e, Nat.le_trans h.g.size hb⟩⟩
theorem Upd.drewN {a b : World} {u v : Value} (h : Upd a u b v) (n : Nat) : Upd a u (b.drewN n) v := ⟨grown_drewN h.g n, h.at_⟩
theorem Upd.drewL {a b : World} {u v : Value} (n : Nat) (h : Upd (a.drewN n) u b v) : Upd a u b v := ⟨grownBy_trans (grownBy_drewN a n _) h.g, h.at_⟩
theorem Upd.allocL {a b : World} {u v : Value} (o : Obj) (h : Upd (a.alloc o) u b v) : Upd a u b v :=
  ⟨grownBy_trans (World.grownBy_alloc a o _) h.g, h.at_.imp id fun ⟨b, e, hb⟩ => ⟨b, e, by simp at hb; omega⟩⟩
theorem OwnB.lt {W : World} {B : Nat} {v : Value} {xs : List Nat} (h : OwnB W B v xs) : v.ownBlock ≠ some W.heap.size := fun e => by
  obtain ⟨inner, ho⟩ := Kd.R_own h
  have := own_lt ho _ e
  omega
theorem OwnB.base {W : World} {B : Nat} {v : Value} {xs : List Nat} (h : OwnB W B v xs) : ∀ k, v.ownBlock = some k → B ≤ k := Kd.R_base h
theorem OwnB.alloc {W : World} {B : Nat} {v : Value} {xs : List Nat} (h : OwnB W B v xs) (o : Obj) : OwnB (W.alloc o) B v xs := Kd.R_alloc h o
theorem OwnB.drewN {W : World} {B : Nat} {v : Value} {xs : List Nat} (h : OwnB W B v xs) (n : Nat) : OwnB (W.drewN n) B v xs := Kd.R_drewN h n
theorem Upd.below {B : Nat} {w0 w w' : World} {v v' : Value} {xs : List Nat} (h : Upd w v w' v') (ho : OwnB w B v xs) (hb : Below B w0 w) (hB : B ≤ w.heap.size) : Below B w0 w' := hb.grown h.g hB (fun k e => ho.base k e)
def Wrote (B : Nat) (w : World) (v : Value) (ys : List Nat) (e : Ending) (w' : World) : Prop := ∃ v', e = .returned v' ∧ OwnB w' B v' ys ∧ Upd w v w' v'
set_option maxHeartbeats 1000000 in
set_option maxRecDepth 100000 in
theorem numeral_c (v : Value) (xs : List Nat) (u B : Nat) (w : World) (hO : OwnB w B v xs) (hB : B ≤ w.heap.size) (hu : u < 18446744073709551616) (hl : xs.length ≤ 70368744177664) :
    Calls Tryd.prog 127 #[v, .int .u64 u] w (Wrote B w v (xs ++ num u)) := by
  go_enter Tryd.func127, Tryd.ntmps127
  go_wp2
  have HO := Lib.hid hO
  clear hO
  go_loopw [0, 1] (fun v0 v1 wr => ∃ (ys : List Nat) (u' : Nat), v1 = .int .u64 u' ∧ u' < 18446744073709551616 ∧ ys.length ≤ 10 ∧ Hid (num u = ys ++ num u') ∧ Hid (OwnB wr B v0 (xs ++ ys)) ∧ Hid (Upd w v wr v0)) (fun _ v1 _ => (intOf v1).toNat)
  case atStart => exact ⟨[], u, rfl, hu, by simp, Lib.hid rfl, Lib.hid (by rw [List.append_nil]; exact HO.out), Lib.hid (Upd.refl w v)⟩
  case round =>
    obtain ⟨ys, u', rfl, hu', hyl, HN, HOr, HUr⟩ := hrel
    have hBr : B ≤ wr.heap.size := Nat.le_trans hB HUr.out.g.size
    by_cases hlt : 128 ≤ u'
    · have t1 : decide ((128 : Int) ≤ (u' : Int)) = true := decide_eq_true (by omega)
      have hor := or128 u' hu'
      have HN2 : Hid (num u = (ys ++ [u' % 128 + 128]) ++ num (u' / 128)) := Lib.hid (by rw [HN.out, num_big hlt]; simp)
      have hyl2 : (ys ++ [u' % 128 + 128]).length ≤ 10 := by
        have := num_len10 hu
        rw [HN2.out, List.length_append] at this
        omega
      have HYL := Lib.hid hyl2
      clear hyl2
      go_wp2_with (at_builtin; refine Kd.R_append (Kd.int .u8) (w0 := wr) B rfl (.tmp 9) (.tmp 13) 22 5 (.int .u8 0) 1 rfl und22 inf5 rfl (by decide) (by decide) u0 (Sha.toI (xs ++ ys)) ((u' % 128 + 128 : Nat) : Int) [.int .u8 ((u' % 128 + 128 : Nat) : Int)] (fun _ => True) (fun _ => False) rfl rfl rfl (fun _ hk => hk.elim) (fun _ _ => trivial) HOr.out (Below.refl _ _) hBr (by rw [Sha.toI_length, List.length_append]; omega) ?_; intro v1 w1 ho hb hg hat; have HO1 := Lib.hid ho; have HU1 := Lib.hid (HUr.out.trans ⟨hg, hat⟩); clear ho hb hg hat)
      go_roundw
      case rel => exact ⟨ys ++ [u' % 128 + 128], u' / 128, by simp, by omega, HYL.out, HN2, Lib.hid (by have := HO1.out; rw [OwnB, ← List.append_assoc, Sha.toI_append]; exact this), HU1⟩
      case measure => simp [intOf]; omega
    · have t1 : decide ((128 : Int) ≤ (u' : Int)) = false := decide_eq_false (by omega)
      have hm : ((u' : Int) % 256) = (u' : Int) := by omega
      have HNE : Hid (num u = ys ++ [u']) := Lib.hid (by rw [HN.out, num_small (by omega)])
      go_wp2_with (at_builtin; refine Kd.R_append (Kd.int .u8) (w0 := wr) B rfl (.tmp 15) (.tmp 18) 22 5 (.int .u8 0) 1 rfl und22 inf5 rfl (by decide) (by decide) u0 (Sha.toI (xs ++ ys)) (u' : Int) [.int .u8 (u' : Int)] (fun _ => True) (fun _ => False) rfl rfl rfl (fun _ hk => hk.elim) (fun _ _ => trivial) HOr.out (Below.refl _ _) hBr (by rw [Sha.toI_length, List.length_append]; omega) ?_; intro v1 w1 ho hb hg hat; have HO1 := Lib.hid ho; have HU1 := Lib.hid (HUr.out.trans ⟨hg, hat⟩); clear ho hb hg hat)
      go_ret
      exact ⟨_, rfl, by rw [HNE.out, OwnB, ← List.append_assoc, Sha.toI_append]; exact HO1.out, HU1.out⟩
end Go.Proofs.YtjbcfdgnafmbkaaDoor.Cod
end
section
set_option linter.unusedVariables false
namespace Go.Proofs.YtjbcfdgnafmbkaaDoor.Cod
open Go.RowKit Go.Proofs.YtjbcfdgnafmbkaaDoor Go.Proofs.YtjbcfdgnafmbkaaDoorW.PrintWords Go.Proofs.YtjbcfdgnafmbkaaDoor.PBig Go.Proofs.YtjbcfdgnafmbkaaDoor.PCu
theorem held_cell {A B : World} {v : Value} (g : A.grownBy B v.ownBlock) {a : Addr} {x : Value} (hne : v.ownBlock ≠ some a.block) (hc : A.cell? a = some x) : B.cell? a = some x :=
  Go.Proofs.YtjbcfdgnafmbkaaDoor.cell_grown g hc (fun r e e2 => hne (by rw [e, ← e2]))
theorem Upd.held {A B : World} {v v' : Value} (h : Upd A v B v') {a : Addr} {x : Value} (hne : v.ownBlock ≠ some a.block) (hc : A.cell? a = some x) : B.cell? a = some x ∧ v'.ownBlock ≠ some a.block :=
  ⟨held_cell h.g hne hc, fun e => by
    have := World.block_lt_of_cell? A a hc
    rcases h.at_ with e2 | ⟨b, e2, hb⟩
    · exact hne (e2.symm.trans e)
    · rw [e2] at e; cases e; omega⟩
set_option maxHeartbeats 1000000 in
set_option maxRecDepth 100000 in
theorem w1_c (n : Int) (c : Nat) (A : Option Addr) (v : Value) (xs : List Nat) (B : Nat) (w : World) (h1 : -9223372036854775808 ≤ n) (h2 : n < 9223372036854775808) (hO : OwnB w B v xs) (hB : B ≤ w.heap.size) (hl : xs.length + 20 ≤ 70368744177664) :
    Calls Tryd.prog 126 #[v, .agg #[.int .i64 1, .int .i64 n, .string ByteArray.empty, .slice A 0 c]] w (Wrote B w v (xs ++ 1 :: num (zz n))) := by
  have HO := Lib.hid hO
  have hne := hO.lt
  have hz := zz_lt h1 h2
  clear hO
  go_enter Tryd.func126, Tryd.ntmps126
  go_wp2_with fail
  generalize hW1 : w.alloc _ = W1
  have c1 : W1.cell? ⟨w.heap.size, 1, none⟩ = some (.int .i64 n) := by rw [← hW1]; simp
  have HO1 : Hid (OwnB W1 B v xs) := Lib.hid (by rw [← hW1]; exact HO.out.alloc _)
  have hB1 : B ≤ W1.heap.size := by rw [← hW1]; simp; omega
  have HU1 : Hid (∀ W2 v2, Upd W1 v W2 v2 → Upd w v W2 v2) := Lib.hid (by rw [← hW1]; exact fun _ _ h => h.allocL)
  clear hW1
  have HF : Hid (xs ++ 1 :: num (zz n) = (xs ++ [1]) ++ num (zz n)) := Lib.hid (by simp)
  go_region_held3 (fun w' => w'.cell? ⟨w.heap.size, 1, none⟩ = some (.int .i64 n)) (first | go_keep | (exact (held_cell hg hne c1)) | (exact hk2.1)) (first | (refine Kd.R_append_step (Kd.int .u8) (w0 := W1) B (by rfl) (.tmp 5) (.tmp 6) 22 5 (.int .u8 0) 1 rfl und22 inf5 rfl (by decide) (by decide) v (Sha.toI xs) 1 [.int .u8 1] (fun _ => True) (fun _ => False) rfl rfl rfl (fun _ hk => hk.elim) (fun _ _ => trivial) (HO1.out.drewN 1) (pw_below_drewN (Below.refl _ _) _) hB1 (by rw [Sha.toI_length]; omega) ?_; intro v1 w1 ho hb hg hat; have HA := Lib.hid (show Upd W1 v w1 v1 from Upd.drewL 1 ⟨hg, hat⟩); have hk1 := HA.out.held hne c1) | (go_at_call 128; refine (unsigned_c n h1 h2 _).mono ?_; rintro e w' ⟨rfl, m, rfl⟩) | (go_at_call 127; refine (numeral_c v1 (xs ++ [1]) (zz n) B (w1.drewN m) (by rw [OwnB, Sha.toI_append]; exact Kd.R_drewN ho m) (Nat.le_trans hB1 HA.out.g.size) hz (by simp; omega)).mono ?_; rintro e w' ⟨v2, rfl, hO2, hU2⟩; have hk2 := hU2.held hk1.2 (show (w1.drewN m).cell? _ = _ from hk1.1)))
  go_wp2
  go_ret
  exact ⟨v2, rfl, by rw [HF.out]; exact hO2, HU1.out _ _ (HA.out.trans (Upd.drewL m hU2))⟩
theorem encs_str (xs : List Nat) (s : ByteArray) : encs (Value.int .u8) (Sha.toI (xs ++ Sha.strL s)) = encs (Value.int .u8) (Sha.toI xs) ++ Lib.strCells s := by
  simp [encs, Sha.toI, Sha.strL, Lib.strCells]
theorem append_str_run (W : World) (B : Nat) (v : Value) (xs : List Nat) (s : ByteArray) (ty : TypeId) (hO : OwnB W B v xs) (hB : B ≤ W.heap.size) (hl : xs.length + s.size ≤ 70368744177664) :
    ∃ v' W', (Builtin.append_ #[22, 9] ty #[v, .string s]).run Tryd.prog W = .ok v' W' ∧ OwnB W' B v' (xs ++ Sha.strL s) ∧ Upd W v W' v' := by
  obtain ⟨i0, hi, hzz⟩ := Option.map_eq_some_iff.1 inf5
  simp only [Prod.mk.injEq] at hzz
  obtain ⟨hz0, hz1, hz2⟩ := hzz
  have h9 : Tryd.prog.underlying 9 = some .string := by kernel_rfl
  have hown := Kd.own_of_R hO
  rw [Sha.toI_length] at hown
  have hlen : (Sha.toI (xs ++ Sha.strL s)).length = xs.length + s.size := by rw [Sha.toI_length, List.length_append, Sha.strL_length]
  have fin : ∀ v' W', W'.ownsRow B 5 1 v' (xs.length + s.size) (encs (Value.int .u8) (Sha.toI xs) ++ Lib.strCells s) → OwnB W' B v' (xs ++ Sha.strL s) := fun v' W' h => by
    refine Kd.R_of_own ?_ (fun _ _ => trivial)
    rw [hlen, encs_str]; exact h
  obtain ⟨v', W', hr, h2, h3, _⟩ := Lib.run_append_own_string (P := Tryd.prog) W B 22 9 ty 5 i0 und22 h9 hi hz0 hz1 hz2 v xs.length _ hown s (by simp only [maxLen]; omega) (by omega) hB
  refine ⟨v', W', hr, fin v' W' h2, h3, ?_⟩
  rcases hown.2 with ⟨rfl, h0⟩ | ⟨g, cap, cur, rfl, hbg, hg, hnc, hcm, hcs, htake⟩
  · have hx : xs = [] := List.eq_nil_of_length_eq_zero h0
    subst hx
    obtain ⟨v2, W2, hr2, k2, k3, _⟩ := Lib.run_append_own_string (P := Tryd.prog) W W.heap.size 22 9 ty 5 i0 und22 h9 hi hz0 hz1 hz2 (.slice none 0 0) 0 [] (World.ownsRow_nil W W.heap.size 5 1) s (by simp only [maxLen]; simp at hl; omega) (by simp at hl; omega) (Nat.le_refl _)
    rw [hr] at hr2
    injection hr2 with e1 e2
    subst e1
    rcases k2.2 with ⟨e, _⟩ | ⟨g, cap, cur, e, hbg, _⟩
    · exact .inl (by rw [e])
    · exact .inr ⟨g, by rw [e]; simp [Value.ownBlock], hbg⟩
  · by_cases hroom : xs.length + s.size ≤ cap
    · have hr2 := Lib.run_append_room_string (P := Tryd.prog) W 22 9 ty 5 i0 und22 h9 hi hz1 g xs.length cap cur hg s hroom (by simp at hcs; omega)
      rw [hr] at hr2
      injection hr2 with e1 e2
      subst e1
      exact .inl rfl
    · have hxl : (encs (Value.int .u8) (Sha.toI xs)).length = xs.length := by rw [encs_length, Sha.toI_length]
      have hr2 := Lib.run_append_grow_string (P := Tryd.prog) W 22 9 ty 5 i0 (.int .u8 0) und22 h9 hi hz0 ⟨g, 0, none⟩ xs.length cap _ (by rw [hz1, hxl, Nat.mul_one]) (hown.cells (g := g) rfl) s (by omega) (by omega) (by rw [hz2]; exact growslice_fits (by omega) (by omega))
      rw [hr] at hr2
      injection hr2 with e1 e2
      subst e1
      exact .inr ⟨W.heap.size, rfl, Nat.le_refl _⟩
theorem step_append_str {ops : Array Oper} {o : Oper} {a : Act} {W : World} {K : Act → World → Prop} {Q : Exit → Act → World → Prop} {E : Prop} (hgd : o.guard = none) (s x : Operand)
    (ho : o.op = .call { callee := .builtin .append, args := #[s, x], argTypes := #[22, 9] }) (B : Nat) (v : Value) (xs : List Nat) (y : ByteArray) (hs : a.eval s = v) (hx : a.eval x = .string y)
    (hO : OwnB W B v xs) (hB : B ≤ W.heap.size) (hl : xs.length + y.size ≤ 70368744177664) (h : ∀ v' W', OwnB W' B v' (xs ++ Sha.strL y) → Upd W v W' v' → K (a.put o.dst v') W') :
    if Region.wanted o (yielded ops a.tmps) = true then Oper.wp Tryd.prog o a W K Q else E := by
  have hw : Region.wanted o (yielded ops a.tmps) = true := by simp [Region.wanted, hgd]
  rw [if_pos hw]
  obtain ⟨v', W', hr, h2, h3⟩ := append_str_run W B v xs y o.type hO hB hl
  unfold Oper.wp execOp
  simp only [ho, resolve, invoke, builtin, Sem.run_bind, Sem.run_pure, Result.andThen_ok, List.map_toArray, List.map_cons, List.map_nil, hs, hx, hr]
  exact h v' W' h2 h3
set_option maxHeartbeats 1000000 in
set_option maxRecDepth 100000 in
theorem w2_c (s : ByteArray) (c : Nat) (A : Option Addr) (v : Value) (xs : List Nat) (B : Nat) (w : World) (hO : OwnB w B v xs) (hB : B ≤ w.heap.size) (hl : xs.length + s.size + 20 ≤ 70368744177664) :
    Calls Tryd.prog 129 #[v, .agg #[.int .i64 2, .int .i64 0, .string s, .slice A 0 c]] w (Wrote B w v (xs ++ 2 :: (num s.size ++ Sha.strL s))) := by
  have HO := Lib.hid hO
  have hne := hO.lt
  have hz : s.size < 18446744073709551616 := by omega
  have hwr : IntKind.u64.wrap (s.size : Int) = (s.size : Int) := by rw [IntKind.wrap_u64]; omega
  have hn10 := num_len10 hz
  clear hO
  go_enter Tryd.func129, Tryd.ntmps129
  go_wp2_with fail
  generalize hW1 : w.alloc _ = W1
  have c1 : W1.cell? ⟨w.heap.size, 2, none⟩ = some (.string s) := by rw [← hW1]; simp
  have HO1 : Hid (OwnB W1 B v xs) := Lib.hid (by rw [← hW1]; exact HO.out.alloc _)
  have hB1 : B ≤ W1.heap.size := by rw [← hW1]; simp; omega
  have HU1 : Hid (∀ W2 v2, Upd W1 v W2 v2 → Upd w v W2 v2) := Lib.hid (by rw [← hW1]; exact fun _ _ h => h.allocL)
  clear hW1
  have HF : Hid (xs ++ 2 :: (num s.size ++ Sha.strL s) = (xs ++ [2]) ++ num s.size ++ Sha.strL s) := Lib.hid (by simp)
  go_region_held3 (fun w' => w'.cell? ⟨w.heap.size, 2, none⟩ = some (.string s)) (first | go_keep | (exact (held_cell hg hne c1)) | (exact hk2.1) | (exact hk3.1)) (first | (refine Kd.R_append_step (Kd.int .u8) (w0 := W1) B (by rfl) (.tmp 5) (.tmp 6) 22 5 (.int .u8 0) 1 rfl und22 inf5 rfl (by decide) (by decide) v (Sha.toI xs) 2 [.int .u8 2] (fun _ => True) (fun _ => False) rfl rfl rfl (fun _ hk => hk.elim) (fun _ _ => trivial) (HO1.out.drewN 1) (pw_below_drewN (Below.refl _ _) _) hB1 (by rw [Sha.toI_length]; omega) ?_; intro v1 w1 ho hb hg hat; have HA := Lib.hid (show Upd W1 v w1 v1 from Upd.drewL 1 ⟨hg, hat⟩); have hk1 := HA.out.held hne c1) | (go_at_call 127; refine (numeral_c v1 (xs ++ [2]) s.size B w1 (by rw [OwnB, Sha.toI_append]; exact ho) (Nat.le_trans hB1 HA.out.g.size) hz (by simp; omega)).mono ?_; rintro e w' ⟨v2, rfl, hO2, hU2⟩; have hk2 := hU2.held hk1.2 hk1.1) | (refine step_append_str rfl (.tmp 12) (.tmp 14) rfl B v2 (xs ++ [2] ++ num s.size) s rfl rfl hO2 (Nat.le_trans (Nat.le_trans hB1 HA.out.g.size) hU2.g.size) (by simp; omega) ?_; intro v3 w3 hO3 hU3; have hk3 := hU3.held hk2.2 hk2.1))
  go_wp2
  go_ret
  exact ⟨v3, rfl, by rw [HF.out]; exact hO3, HU1.out _ _ (HA.out.trans (hU2.trans hU3))⟩
end Go.Proofs.YtjbcfdgnafmbkaaDoor.Cod
end
section
set_option linter.unusedVariables false
namespace Go.Proofs.YtjbcfdgnafmbkaaDoor.Cod
open Go.RowKit Go.Proofs.YtjbcfdgnafmbkaaDoor Go.Proofs.YtjbcfdgnafmbkaaDoorW.PrintWords Go.Proofs.YtjbcfdgnafmbkaaDoor.PBig Go.Proofs.YtjbcfdgnafmbkaaDoor.PCu
structure Writer (W : World) (pw pb : Nat) : Prop where
  p : W.cell? ⟨pw, 0, none⟩ = some (.pointer (some ⟨pb, 0, none⟩))
  f1 : W.cell? ⟨pb, 1, none⟩ = some (.func (.func 126) #[] #[])
  f2 : W.cell? ⟨pb, 2, none⟩ = some (.func (.func 129) #[] #[])
  f3 : W.cell? ⟨pb, 3, none⟩ = some (.func (.func 130) #[] #[.pointer (some ⟨pw, 0, none⟩)])
theorem Writer.below {A B : World} {pw pb : Nat} (h : Writer A pw pb) (g : Below A.heap.size A B) : Writer B pw pb :=
  ⟨(g.cell (World.block_lt_of_cell? A _ h.p)).trans h.p, (g.cell (World.block_lt_of_cell? A _ h.f1)).trans h.f1, (g.cell (World.block_lt_of_cell? A _ h.f2)).trans h.f2, (g.cell (World.block_lt_of_cell? A _ h.f3)).trans h.f3⟩
def WrP (k : Nat) (w0 : World) (pw : Nat) : Prop := ∀ (x : S93) (A : Option Addr) (c : Nat) (v : Value) (xs : List Nat) (w : World), okV k x → Kd.C k93 w0 A x.f3.length x.f3 → x.f3.length ≤ c → OwnB w w0.heap.size v xs → Below w0.heap.size w0 w →
  xs.length + (encF k x).length + 40 ≤ 70368744177664 →
  (x.f0 = 1 → Calls Tryd.prog 126 #[v, agg93 x A c] w (Wrote w0.heap.size w v (xs ++ encF k x))) ∧
  (x.f0 = 2 → Calls Tryd.prog 129 #[v, agg93 x A c] w (Wrote w0.heap.size w v (xs ++ encF k x))) ∧
  (x.f0 = 3 → Calls Tryd.prog 130 #[v, agg93 x A c, .pointer (some ⟨pw, 0, none⟩)] w (Wrote w0.heap.size w v (xs ++ encF k x)))
theorem enc_part (k : Nat) (l : List S93) (i : Nat) (h : i < l.length) : ((l.map (encF k)).flatten).length = (((l.take i).map (encF k)).flatten).length + (encF k (l.getD i z93)).length + (((l.drop (i + 1)).map (encF k)).flatten).length := by
  have e : l = l.take i ++ (l.getD i z93 :: l.drop (i + 1)) := by
    rw [List.getD_eq_getElem?_getD, List.getElem?_eq_getElem h, Option.getD_some, List.getElem_cons_drop, List.take_append_drop]
  conv => lhs; rw [e]
  simp only [List.map_append, List.map_cons, List.flatten_append, List.flatten_cons, List.length_append]
  omega
set_option maxHeartbeats 2000000 in
set_option maxRecDepth 100000 in
theorem w3_c (k : Nat) (w0 : World) (pw pb : Nat) (hW : Writer w0 pw pb) (IH0 : WrP k w0 pw) (l : List S93) (hok : ∀ y ∈ l, okV k y) (A : Option Addr) (c : Nat) (v : Value) (xs : List Nat) (w : World) (hC : Kd.C k93 w0 A l.length l) (hlc : l.length ≤ c)
    (hO : OwnB w w0.heap.size v xs) (hb : Below w0.heap.size w0 w) (hl : xs.length + (1 + (num l.length).length + ((l.map (encF k)).flatten).length) + 40 ≤ 70368744177664) :
    Calls Tryd.prog 130 #[v, .agg #[.int .i64 3, .int .i64 0, .string ByteArray.empty, .slice A l.length c], .pointer (some ⟨pw, 0, none⟩)] w (Wrote w0.heap.size w v (xs ++ 3 :: (num l.length ++ (l.map (encF k)).flatten))) := by
  have hln : l.length ≤ 9223372036854775807 := hC.2.1
  have IH := Lib.hid IH0
  have HO := Lib.hid hO
  have HW := Lib.hid hW
  have HC := Lib.hid hC
  have HOK := Lib.hid hok
  have HB := Lib.hid hb
  have hB : w0.heap.size ≤ w.heap.size := hb.size
  have hne := hO.lt
  have hz : l.length < 18446744073709551616 := by omega
  have hwr : IntKind.u64.wrap (l.length : Int) = (l.length : Int) := by rw [IntKind.wrap_u64]; omega
  clear hO hC hok hW IH0 hb
  have HL := Lib.hid hl
  clear hl
  go_enter Tryd.func130, Tryd.ntmps130
  go_wp2_with fail
  generalize hW1 : w.alloc _ = W1
  have c1 : W1.cell? ⟨w.heap.size, 3, none⟩ = some (.slice A l.length c) := by rw [← hW1]; simp
  have HO1 : Hid (OwnB W1 w0.heap.size v xs) := Lib.hid (by rw [← hW1]; exact HO.out.alloc _)
  have hB1 : w0.heap.size ≤ W1.heap.size := by rw [← hW1]; simp; omega
  have HU1 : Hid (∀ W2 v2, Upd W1 v W2 v2 → Upd w v W2 v2) := Lib.hid (by rw [← hW1]; exact fun _ _ h => h.allocL)
  clear hW1
  have HF : Hid (xs ++ 3 :: (num l.length ++ (l.map (encF k)).flatten) = (xs ++ [3]) ++ num l.length ++ (l.map (encF k)).flatten) := Lib.hid (by simp)
  go_region_held3 (fun w' => w'.cell? ⟨w.heap.size, 3, none⟩ = some (.slice A l.length c)) (first | go_keep | (exact (held_cell hg hne c1)) | (exact hk2.1)) (first | (refine Kd.R_append_step (Kd.int .u8) (w0 := W1) w0.heap.size (by rfl) (.tmp 8) (.tmp 9) 22 5 (.int .u8 0) 1 rfl und22 inf5 rfl (by decide) (by decide) v (Sha.toI xs) 3 [.int .u8 3] (fun _ => True) (fun _ => False) rfl rfl rfl (fun _ hk => hk.elim) (fun _ _ => trivial) (HO1.out.drewN 1) (pw_below_drewN (Below.refl _ _) _) hB1 (by rw [Sha.toI_length]; have := HL.out; omega) ?_; intro v1 w1 ho hb hg hat; have HA := Lib.hid (show Upd W1 v w1 v1 from Upd.drewL 1 ⟨hg, hat⟩); have hk1 := HA.out.held hne c1) | (go_at_call 127; refine (numeral_c v1 (xs ++ [3]) l.length w0.heap.size w1 (by rw [OwnB, Sha.toI_append]; exact ho) (Nat.le_trans hB1 HA.out.g.size) hz (by have := HL.out; simp; omega)).mono ?_; rintro e w' ⟨v2, rfl, hO2, hU2⟩; have hk2 := hU2.held hk1.2 hk1.1))
  have HU2 := Lib.hid (HU1.out _ _ (HA.out.trans hU2))
  have HO2 := Lib.hid hO2
  have c2 := hk2.1
  clear hU2 hO2 hk2 hk1 HA HU1 HO1 hB1 ho hg hat c1
  go_wp2
  go_loopw [0, 19] (fun v0 v19 wr => ∃ i : Nat, i ≤ l.length ∧ v19 = .int .i64 i ∧ Hid (OwnB wr w0.heap.size v0 (xs ++ [3] ++ num l.length ++ ((l.take i).map (encF k)).flatten)) ∧ Hid (Upd w v wr v0)) (fun _ v19 _ => l.length - (intOf v19).toNat)
  case atStart => exact ⟨0, by omega, rfl, Lib.hid (by simpa using HO2.out), HU2⟩
  case round =>
    obtain ⟨i, hi, rfl, HOr, HUr⟩ := hrel
    by_cases hlt : i < l.length
    · have hbr : Below w0.heap.size w0 wr := HUr.out.below HO.out HB.out hB
      have hBr : w0.heap.size ≤ wr.heap.size := hbr.size
      obtain ⟨b, o, rfl, hel⟩ := el93 (Kd.C_below HC.out hbr) (by omega)
      obtain ⟨A3, c3, q0, q1, q2, q3, hl3, hC3⟩ := hel i hlt
      obtain ⟨A4, c4, r0, r1, r2, r3, hl4, hC4⟩ : ∃ A4 c4, wr.cell? ⟨b, o + i * 4, none⟩ = some (.int .i64 (l.getD i z93).f0) ∧ wr.cell? ⟨b, o + i * 4 + 1, none⟩ = some (.int .i64 (l.getD i z93).f1) ∧ wr.cell? ⟨b, o + i * 4 + 2, none⟩ = some (.string (l.getD i z93).f2) ∧ wr.cell? ⟨b, o + i * 4 + 3, none⟩ = some (.slice A4 (l.getD i z93).f3.length c4) ∧ (l.getD i z93).f3.length ≤ c4 ∧ Kd.C k93 w0 A4 (l.getD i z93).f3.length (l.getD i z93).f3 := by
        obtain ⟨b', o', e', hel0⟩ := el93 HC.out (by omega)
        injection e' with e'
        injection e' with e1 e2 e3
        subst e1 e2
        obtain ⟨A4, c4, s0, s1, s2, s3, hl4, hC4⟩ := hel0 i hlt
        exact ⟨A4, c4, (hbr.cell (World.block_lt_of_cell? w0 _ s0)).trans s0, (hbr.cell (World.block_lt_of_cell? w0 _ s1)).trans s1, (hbr.cell (World.block_lt_of_cell? w0 _ s2)).trans s2, (hbr.cell (World.block_lt_of_cell? w0 _ s3)).trans s3, hl4, hC4⟩
      clear q0 q1 q2 q3 hel hC3 hl3
      have hoy := HOK.out _ (getD_mem l i hlt z93)
      have hsz := enc_part k l i hlt
      have hts : ((l.take (i + 1)).map (encF k)).flatten = ((l.take i).map (encF k)).flatten ++ encF k (l.getD i z93) := by
        rw [take_snoc l i hlt z93, List.map_append, List.flatten_append]; simp
      have hIH := fun m => IH.out (l.getD i z93) A4 c4 u0 (xs ++ [3] ++ num l.length ++ ((l.take i).map (encF k)).flatten) ((wr.alloc (.cells #[.int .i64 (l.getD i z93).f0, .int .i64 (l.getD i z93).f1, .string (l.getD i z93).f2, .slice A4 (l.getD i z93).f3.length c4] 93)).drewN m) hoy hC4 hl4 ((HOr.out.alloc _).drewN m) (pw_below_drewN (hbr.alloc hBr _) m) (by have := HL.out; simp only [List.length_append, List.length_singleton]; omega)
      have hWr := HW.out.below hbr
      have hWp : ∀ ob : Obj, (wr.alloc ob).cell? ⟨pw, 0, none⟩ = some (.pointer (some ⟨pb, 0, none⟩)) := fun ob => (hWr.below ((Below.refl _ wr).alloc (Nat.le_refl _) ob)).p
      have hWf1 : ∀ ob : Obj, (wr.alloc ob).cell? ⟨pb, 1, none⟩ = some (.func (.func 126) #[] #[]) := fun ob => (hWr.below ((Below.refl _ wr).alloc (Nat.le_refl _) ob)).f1
      have hWf2 : ∀ ob : Obj, (wr.alloc ob).cell? ⟨pb, 2, none⟩ = some (.func (.func 129) #[] #[]) := fun ob => (hWr.below ((Below.refl _ wr).alloc (Nat.le_refl _) ob)).f2
      have hWf3 : ∀ ob : Obj, (wr.alloc ob).cell? ⟨pb, 3, none⟩ = some (.func (.func 130) #[] #[.pointer (some ⟨pw, 0, none⟩)]) := fun ob => (hWr.below ((Below.refl _ wr).alloc (Nat.le_refl _) ob)).f3
      have HTS := Lib.hid hts
      have HUA : Hid (∀ W2 v2, Upd (wr.alloc (.cells #[.int .i64 (l.getD i z93).f0, .int .i64 (l.getD i z93).f1, .string (l.getD i z93).f2, .slice A4 (l.getD i z93).f3.length c4] 93)) u0 W2 v2 → Upd wr u0 W2 v2) := Lib.hid (fun _ _ h => h.allocL)
      cases k with
      | zero => exact hoy.elim
      | succ k =>
        obtain ⟨_, _, hoy⟩ := hoy
        clear hsz hts hC4 hWr hbr
        unfold agg93 at hIH
        generalize l.getD i z93 = y at *
        obtain ⟨y0, y1, y2, y3⟩ := y
        simp only at r0 r1 r2 r3 hoy hIH hl4 HUA
        have hI1 := fun m h => (hIH m).1 h
        have hI2 := fun m h => (hIH m).2.1 h
        have hI3 := fun m h => (hIH m).2.2 h
        clear hIH
        rcases hoy with ⟨rfl, hq⟩ | ⟨rfl, hq⟩ | ⟨rfl, hq⟩ <;> clear hq
        · have HI := Lib.hid (fun m => hI1 m rfl)
          clear hI1 hI2 hI3
          go_wp2_with fail
          refine wp_region_quiet_tail 9 (by kernel_rfl) (by kernel_rfl) ?_
          simp only [List.take_succ_cons, List.take_zero, List.drop_succ_cons, List.drop_zero]
          repeat (go_big_quiet_step (fail))
          refine wpQuiet_nil ?_
          intro m
          go_wp2_with fail
          refine (HI.out m).mono ?_
          rintro e w7 ⟨v7, rfl, hO7, hU7⟩
          have HO7 := Lib.hid hO7
          have HU7 := Lib.hid (HUr.out.trans (HUA.out _ _ (Upd.drewL m hU7)))
          clear hO7 hU7
          go_wp2
          go_roundw
          case rel => exact ⟨i + 1, by omega, by go_num, Lib.hid (by rw [HTS.out, ← List.append_assoc]; exact HO7.out), HU7⟩
          case measure => simp [intOf]; omega
        · have HI := Lib.hid (fun m => hI2 m rfl)
          clear hI1 hI2 hI3
          go_wp2_with fail
          refine wp_region_quiet_tail 9 (by kernel_rfl) (by kernel_rfl) ?_
          simp only [List.take_succ_cons, List.take_zero, List.drop_succ_cons, List.drop_zero]
          repeat (go_big_quiet_step (fail))
          refine wpQuiet_nil ?_
          intro m
          go_wp2_with fail
          refine (HI.out m).mono ?_
          rintro e w7 ⟨v7, rfl, hO7, hU7⟩
          have HO7 := Lib.hid hO7
          have HU7 := Lib.hid (HUr.out.trans (HUA.out _ _ (Upd.drewL m hU7)))
          clear hO7 hU7
          go_wp2
          go_roundw
          case rel => exact ⟨i + 1, by omega, by go_num, Lib.hid (by rw [HTS.out, ← List.append_assoc]; exact HO7.out), HU7⟩
          case measure => simp [intOf]; omega
        · have HI := Lib.hid (fun m => hI3 m rfl)
          clear hI1 hI2 hI3
          go_wp2_with fail
          refine wp_region_quiet_tail 9 (by kernel_rfl) (by kernel_rfl) ?_
          simp only [List.take_succ_cons, List.take_zero, List.drop_succ_cons, List.drop_zero]
          repeat (go_big_quiet_step (fail))
          refine wpQuiet_nil ?_
          intro m
          go_wp2_with fail
          refine (HI.out m).mono ?_
          rintro e w7 ⟨v7, rfl, hO7, hU7⟩
          have HO7 := Lib.hid hO7
          have HU7 := Lib.hid (HUr.out.trans (HUA.out _ _ (Upd.drewL m hU7)))
          clear hO7 hU7
          go_wp2
          go_roundw
          case rel => exact ⟨i + 1, by omega, by go_num, Lib.hid (by rw [HTS.out, ← List.append_assoc]; exact HO7.out), HU7⟩
          case measure => simp [intOf]; omega
    · have : i = l.length := by omega
      subst this
      rw [List.take_length] at HOr
      go_wp2
      go_ret
      exact ⟨_, rfl, by rw [HF.out]; exact HOr.out, HUr.out⟩
end Go.Proofs.YtjbcfdgnafmbkaaDoor.Cod
end
