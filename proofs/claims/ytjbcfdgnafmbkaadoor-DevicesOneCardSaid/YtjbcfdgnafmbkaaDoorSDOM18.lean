/- Lemmas, walks and printed functions for the claim. -/
import Derived.Test.YtjbcfdgnafmbkaaDoorSDOM2
import Derived.Test.YtjbcfdgnafmbkaaDoorSDOM17
import Derived.Lib.Hide
import Derived.WalkArith
section
set_option linter.unusedVariables false
namespace Go.Proofs.YtjbcfdgnafmbkaaDoor.Dev
open Go.RowKit Go.Lib Go.Proofs.YtjbcfdgnafmbkaaDoor Go.Proofs.YtjbcfdgnafmbkaaDoorW.PrintWords Go.Proofs.YtjbcfdgnafmbkaaDoorW.PrintLast Go.Proofs.YtjbcfdgnafmbkaaDoorW.PrintMore Go.Proofs.YtjbcfdgnafmbkaaDoor.PBig Go.Proofs.YtjbcfdgnafmbkaaDoor.Ins
set_option maxHeartbeats 1000000 in
theorem clone_c (l : List S65) (A : Option Addr) (c : Nat) (w : World) (hC : Kd.C k65 w A l.length l) (hl : l.length ≤ 4096) :
    Calls Tryd.prog 81 #[.slice A l.length c] w fun e w' => ∃ v, e = .returned v ∧ Kd.R k65 65 w' w.heap.size (fun _ => True) v l ∧ Below w.heap.size w w' := by
  have HC := Lib.hid hC
  have q63 : ∀ (w : World) (a : Option Addr) (n c n' c' : Nat), (binOp .eql 63 (.slice a n c) (.slice none n' c')).run Tryd.prog w = .ok (.bool a.isNone) w := fun w a n c n' c' => Lib.run_eql_slice_nil w _ _ a n c n' c' Tryd.underlying63
  cases A with
  | none =>
    have h0 : l = [] := by
      rcases Nat.eq_zero_or_pos l.length with h | h
      · exact List.length_eq_zero_iff.1 h
      · obtain ⟨ad, e, _⟩ := hC.2.2 h; cases e
    subst h0
    clear hC
    go_enter Tryd.func81, Tryd.ntmps81
    go_wp2_with fail
    go_ret
    exact ⟨_, rfl, Kd.R_nil _ _ _ _ _, Below.refl _ _⟩
  | some ad =>
    have HL := Lib.hid hl
    clear hC hl
    go_enter Tryd.func81, Tryd.ntmps81
    go_wp2_with (at_builtin; refine Kd.R_append_rows k65 (Rr := k65.K w) (w0 := w) w.heap.size rfl _ _ 63 65 _ 48 rfl Tryd.underlying63 info65 rfl (by decide) (by decide) _ ([] : List S65) l (some ad) l.length c (fun _ => True) (fun _ => False) rfl rfl ?q1 ?q2 ?q3 (fun _ h => h.elim) (fun _ _ => trivial) ?q4 ?q5 ?q6 ?_)
    case q1 => exact ⟨fun _ _ => trivial, [], World.ownsRow_made w #[] 0 (Nat.le_refl _) (Nat.zero_le _) (by simp), Reps.none _ _⟩
    case q2 => exact Kd.C_alloc HC.out _
    case q3 =>
      intro x cs h
      obtain rfl := k65_open h
      exact k65_mkM _ _ _ x
    case q4 => exact below_alloc (Below.refl _ _) _
    case q5 => simp
    case q6 => have := HL.out; simp; omega
    intro v1 w1 hR hb _ _
    have HR := Lib.hid hR
    clear hR
    go_wp2
    go_ret
    exact ⟨_, rfl, HR.out, hb⟩
def insL (l : List S65) (i : Nat) (x : S65) : List S65 := l.take i ++ [x] ++ l.drop i
def cellsL (x : S65) : List Value := [.int .i64 x.f0, .int .i64 x.f1, .int .i64 x.f2, .int .i64 x.f3, .int .i64 x.f4, .bool x.f5]
set_option maxHeartbeats 1000000 in
theorem insert_end (l : List S65) (v : Value) (x : S65) (B vb : Nat) (w : World) (hR : Kd.R k65 65 w B (fun _ => True) v l) (hB : B ≤ w.heap.size) (hb : w.heap[vb]? = some (.cells (cellsL x).toArray 65 (0, 0))) (hne : some vb ≠ v.ownBlock) (hl : l.length ≤ 4096) :
    Calls Tryd.prog 80 #[v, .int .i64 l.length, .slice (some ⟨vb, 0, none⟩) 1 1] w fun e w' => ∃ v', e = .returned v' ∧ Kd.R k65 65 w' B (fun _ => True) v' (l ++ [x]) ∧ Below B w w' := by
  have HX : ReadsRow (k65.K w) k65.sz w (some ⟨vb, 0, none⟩) 1 [x] := ⟨rfl, by decide, fun _ => ⟨_, rfl, fun j p hj => by
    have hj0 : j = 0 := by have := (List.getElem?_eq_some_iff.1 hj).1; simp at this; omega
    subst hj0
    obtain rfl : x = p := by simpa using hj
    exact ⟨cellsL x, rfl, k65_mk w x, fun i u hu => by rw [Nat.zero_mul, Nat.zero_add, add_plain, blk_cell hb]; simpa using hu⟩⟩⟩
  have HX := Lib.hid HX
  have HR := Lib.hid hR
  have HB := Lib.hid hB
  have HL := Lib.hid hl
  obtain ⟨A, c, rfl, hlc, hC⟩ := Kd.R_reads hR
  have hc63 : l.length ≤ 9223372036854775807 := hC.2.1
  clear hR hB hb hne hl hC
  go_enter Tryd.func80, Tryd.ntmps80
  by_cases hcc : c = l.length
  all_goals
    go_wp2_with (at_builtin; refine Kd.R_append_rows k65 (Rr := k65.K w) (w0 := w) B rfl _ _ 63 65 _ 48 rfl Tryd.underlying63 info65 rfl (by decide) (by decide) _ l [x] _ 1 1 (fun _ => True) (fun _ => False) rfl rfl HR.out HX.out ?q3 (fun _ h => h.elim) (fun _ _ => trivial) (Below.refl _ _) HB.out ?q6 ?_)
    case q3 =>
      intro x cs h
      obtain rfl := k65_open h
      exact k65_mkM _ _ _ x
    case q6 => have := HL.out; simp; omega
    intro v1 w1 hR hb _ _
    have HR1 := Lib.hid hR
    clear hR
    go_wp2
    go_ret
    exact ⟨_, rfl, HR1.out, hb⟩
theorem shape_blk {w : World} {g : Nat} {t : TypeId} {cs : Array Value} {fr : Nat × Nat} (h : w.heap[g]? = some (.cells cs t fr)) : w.shape? g = some (t, cs.size) := by simp [World.shape?, h]
theorem over_c (w : World) (vb g off lb cb : Nat) (cs cur : Array Value) (hb : w.heap[vb]? = some (.cells cs 65 (0, 0))) (hg : w.heap[g]? = some (.cells cur 65 (0, 0))) (hne : vb ≠ g) (hc : cur.size ≠ 0) :
    (callFunc 113 #[.slice (some ⟨vb, 0, none⟩) 1 1, .slice (some ⟨g, off, none⟩) lb cb]).run Tryd.prog w = .ok (.value (.bool false)) w := by
  rw [run_callFunc_extern Tryd.func113 (by kernel_rfl) (by kernel_rfl) (by kernel_rfl) (e := Extern.SlicesOverlaps.overlaps #[63, 63] #[4]) (by kernel_rfl),
    Lib.run_overlaps_apart w 63 4 65 Tryd.underlying63 6 Tryd.sizeOf65 ⟨vb, 0, none⟩ ⟨g, off, none⟩ 1 1 lb cb hne 65 65 cs.size cur.size (shape_blk hb) (shape_blk hg) hc (blk_frozen hb 0) (blk_frozen hb _)]
  rfl
set_option maxRecDepth 100000 in
set_option maxHeartbeats 4000000 in
theorem insert_shift (g c i n : Nat) (xs ys : List Value) (cur : Array Value) (vb : Nat) (w : World) (hg : w.heap[g]? = some (.cells cur 65 (0, 0))) (hc : cur.size = c * 6) (hn : n + 1 ≤ c) (hc63 : c ≤ 9223372036854775807) (hi : i < n) (hn5 : n ≤ 4096) (hx : cur.toList.take (n * 6) = xs)
    (hb : w.heap[vb]? = some (.cells ys.toArray 65 (0, 0))) (hy : ys.length = 6) (hne : vb ≠ g) (h1x : ∀ u ∈ xs, u.oneCell' = true) (h1y : ∀ u ∈ ys, u.oneCell' = true) :
    Calls Tryd.prog 80 #[.slice (some ⟨g, 0, none⟩) n c, .int .i64 i, .slice (some ⟨vb, 0, none⟩) 1 1] w fun e w' => e = .returned (.slice (some ⟨g, 0, none⟩) (n + 1) c) ∧
      ∃ cur2 : Array Value, cur2.size = cur.size ∧ cur2.toList.take ((n + 1) * 6) = xs.take (i * 6) ++ ys ++ xs.drop (i * 6) ∧ w' = w.drew.setRow g cur2 := by
  have mixed : Tryd.prog.follows .mixedOrders = true := by kernel_rfl
  have hz2 : ¬ ((i : Int) = (n : Int)) := by omega
  have hb3 : (i : Int) ≤ (n : Int) + 1 := by omega
  have hw1 : IntKind.i64.wrap ((i : Int) + 1) = (i : Int) + 1 := by rw [IntKind.wrap_i64]; omega
  have hb1 : (0 : Int) ≤ (i : Int) + 1 := by omega
  have hin : i ≤ n := by omega
  have htn : ((i : Int) + 1).toNat = i + 1 := by omega
  have hb2 : ¬ (c = i + 1) := by omega
  have hb4 : ¬ (c = i) := by omega
  have hov := fun off lb cb => over_c w vb g off lb cb ys.toArray cur hb hg hne (by omega)
  have hcl : cur.toList.length = c * 6 := by simpa using hc
  have hxl : xs.length = n * 6 := by rw [← hx, List.length_take]; omega
  have hdl : (xs.drop (i * 6)).length = (n - i) * 6 := by rw [List.length_drop, hxl]; omega
  obtain ⟨C1, hC1⟩ : ∃ C1 : Array Value, C1 = (cur.toList.take ((i + 1) * 6) ++ xs.drop (i * 6) ++ cur.toList.drop ((i + 1) * 6 + (xs.drop (i * 6)).length)).toArray := ⟨_, rfl⟩
  obtain ⟨C2, hC2⟩ : ∃ C2 : Array Value, C2 = (C1.toList.take (i * 6) ++ ys ++ C1.toList.drop (i * 6 + ys.length)).toArray := ⟨_, rfl⟩
  have hsp := splice_in cur.toList ys (i * 6) 6 (n * 6) (by omega) (by omega) hy
  simp only at hsp
  rw [hx] at hsp
  have e1 : C1.toList = cur.toList.take (i * 6 + 6) ++ xs.drop (i * 6) ++ cur.toList.drop (i * 6 + 6 + (n * 6 - i * 6)) := by
    rw [hC1, hdl, show (i + 1) * 6 = i * 6 + 6 by omega, show (n - i) * 6 = n * 6 - i * 6 by omega]
  rw [← e1] at hsp
  have e2 : C2.toList = C1.toList.take (i * 6) ++ ys ++ C1.toList.drop (i * 6 + 6) := by rw [hC2, hy]
  rw [← e2] at hsp
  have hd : w.drew.heap[g]? = some (.cells cur 65 (0, 0)) := hg
  have hcp1 : ∀ ty dc sc, (Builtin.copy_ #[63, 63] ty #[.slice (some ⟨g, (i + 1) * 6, none⟩) (n - i) dc, .slice (some ⟨g, i * 6, none⟩) (n + 1 - i) sc]).run Tryd.prog w.drew = .ok (goInt (Nat.min (n + 1 - i) (n - i))) (w.drew.setRow g C1) := fun ty dc sc => by
    rw [hC1]
    refine run_copy_rowK w.drew 63 63 ty 65 6 g ((i + 1) * 6) _ dc ⟨g, i * 6, none⟩ _ sc cur 65 (xs.drop (i * 6)) Tryd.underlying63 (by kernel_rfl) hd (by rw [hdl]; congr 1; simp only [Nat.min_def]; split <;> omega) (fun j v hj => ?_) (by rw [hdl, hc]; omega) (fun v hv => h1x v (List.mem_of_mem_drop hv))
    rw [Addr.add_lit, blk_cell hd]
    rw [List.getElem?_drop, ← hx, List.getElem?_take] at hj
    split at hj
    · rw [← hj, Array.getElem?_toList]
    · cases hj
  have hW1 : (w.drew.setRow g C1).heap[g]? = some (.cells C1 65 (0, 0)) := setRow_heap w.drew g cur C1 65 (0, 0) hd
  have hvb1 : (w.drew.setRow g C1).heap[vb]? = some (.cells ys.toArray 65 (0, 0)) := (setRow_other w.drew g vb C1 hne).trans hb
  have hcp2 : ∀ ty dc, (Builtin.copy_ #[63, 63] ty #[.slice (some ⟨g, i * 6, none⟩) (n + 1 - i) dc, .slice (some ⟨vb, 0, none⟩) 1 1]).run Tryd.prog (w.drew.setRow g C1) = .ok (goInt (Nat.min 1 (n + 1 - i))) (w.drew.setRow g C2) := fun ty dc => by
    rw [run_copy_rowK (w.drew.setRow g C1) 63 63 ty 65 6 g (i * 6) _ dc ⟨vb, 0, none⟩ 1 1 C1 65 ys Tryd.underlying63 (by kernel_rfl) hW1 (by rw [hy]; simp only [Nat.min_def]; split <;> omega) (fun j v hj => by rw [add_plain, blk_cell hvb1]; simpa using hj) (by have := hsp.1; simp only [Array.length_toList] at this; omega) h1y, ← hC2, setRow_setRow]
  have HSP := Lib.hid hsp
  have HCP1 := Lib.hid hcp1
  have HCP2 := Lib.hid hcp2
  clear hg hc hx hb hy hne h1x h1y hcl hxl hdl hC1 hC2 hsp e1 e2 hd hW1 hvb1 hcp1 hcp2
  go_enter Tryd.func80, Tryd.ntmps80
  go_wp2_with (simp only [hov])
  have hcp1 := HCP1.out
  go_region
  clear hcp1
  have hcp2 := HCP2.out
  go_wp2
  clear hcp2
  go_ret
  exact ⟨rfl, C2, by have := HSP.out.2.1; simpa using this, by rw [show (n + 1) * 6 = n * 6 + 6 by omega]; exact HSP.out.2.2, rfl⟩
set_option maxRecDepth 100000 in
set_option maxHeartbeats 4000000 in
theorem insert_grow (g c i n : Nat) (xs ys : List Value) (cur : Array Value) (vb : Nat) (w : World) (hg : w.heap[g]? = some (.cells cur 65 (0, 0))) (hc : cur.size = c * 6) (hn : n = c) (hi : i < n) (hn5 : n ≤ 4096) (hx : cur.toList.take (n * 6) = xs)
    (hb : w.heap[vb]? = some (.cells ys.toArray 65 (0, 0))) (hy : ys.length = 6) (h1x : ∀ u ∈ xs, u.oneCell' = true) (h1y : ∀ u ∈ ys, u.oneCell' = true) :
    Calls Tryd.prog 80 #[.slice (some ⟨g, 0, none⟩) n c, .int .i64 i, .slice (some ⟨vb, 0, none⟩) 1 1] w fun e w' =>
      ∃ (cap : Nat) (row : Array Value), e = .returned (.slice (some ⟨w.heap.size, 0, none⟩) (n + 1) cap) ∧ n + 1 ≤ cap ∧ cap ≤ maxLen ∧ row.size = cap * 6 ∧ row.toList.take ((n + 1) * 6) = xs.take (i * 6) ++ ys ++ xs.drop (i * 6) ∧ w'.heap[w.heap.size]? = some (.cells row 65 (0, 0)) ∧ Below w.heap.size w w' := by
  subst hn
  have mixed : Tryd.prog.follows .mixedOrders = true := by kernel_rfl
  have hz2 : ¬ ((i : Int) = (n : Int)) := by omega
  have hb3 : (i : Int) ≤ (n : Int) := by omega
  have hw1 : IntKind.i64.wrap ((i : Int) + 1) = (i : Int) + 1 := by rw [IntKind.wrap_i64]; omega
  have hb1 : (0 : Int) ≤ (i : Int) + 1 := by omega
  have hin : i ≤ n := by omega
  have htn : ((i : Int) + 1).toNat = i + 1 := by omega
  have hkk : (n : Int) + 1 - (i : Int) = ((n + 1 - i : Nat) : Int) := by omega
  have hik : i + (n + 1 - i) = n + 1 := by omega
  have hbw : g < w.heap.size := blk_lt hg
  have hvw : vb < w.heap.size := blk_lt hb
  have hcl : cur.toList.length = n * 6 := by simpa using hc
  have hxl : xs.length = n * 6 := by rw [← hx, List.length_take]; omega
  have hdl : (xs.drop (i * 6)).length = (n - i) * 6 := by rw [List.length_drop, hxl]; omega
  have hcell : ∀ j v, xs[j]? = some v → w.cell? ⟨g, j, none⟩ = some v := fun j v hj => by
    rw [blk_cell hg]
    rw [← hx, List.getElem?_take] at hj
    split at hj
    · rw [← hj, Array.getElem?_toList]
    · cases hj
  obtain ⟨i0, hi0, hzz⟩ := Option.map_eq_some_iff.1 info65
  simp only [Prod.mk.injEq] at hzz
  obtain ⟨hz0, hzs, hzb⟩ := hzz
  have hold : (Builtin.firstCells i0.size i (.slice (some ⟨g, 0, none⟩) i n)).run Tryd.prog w.drew = .ok (xs.take (i * 6)).toArray w.drew := by
    rw [hzs]
    exact run_firstCells_some w.drew 6 i ⟨g, 0, none⟩ i n (xs.take (i * 6)) (by rw [List.length_take]; omega) (fun j v hj => by
      rw [add_plain]
      rw [List.getElem?_take] at hj
      split at hj
      · exact hcell j v hj
      · cases hj)
  obtain ⟨G, hG⟩ : ∃ G, G = grownCap w (n + 1) n 65 := ⟨_, rfl⟩
  obtain ⟨Z, hZ⟩ : ∃ Z : Value, Z = .agg #[.int .i64 0, .int .i64 0, .int .i64 0, .int .i64 0, .int .i64 0, .bool false] := ⟨_, rfl⟩
  rw [← hZ] at hz0
  obtain ⟨ROW, hROW⟩ : ∃ ROW : Array Value, ROW = (xs.take (i * 6)).toArray ++ Builtin.zeroCells Z.cells (n + 1 - i) ++ Builtin.zeroCells Z.cells (G - (n + 1)) := ⟨_, rfl⟩
  obtain ⟨W1, hW1⟩ : ∃ W1, W1 = w.drew.alloc (.cells ROW 65) := ⟨_, rfl⟩
  have hGn : n + 1 ≤ G := by rw [hG]; exact grownCap_ge w _ _ _
  have hGm : G ≤ maxLen := by rw [hG]; exact grownCap_le_maxLen w (n + 1) n 65 (by unfold maxLen; omega)
  have hrz : ∀ ty, (Builtin.append_ #[63, 3] ty #[.slice (some ⟨g, 0, none⟩) i n, .int .i64 ((n : Int) + 1 - (i : Int))]).run Tryd.prog w = .ok (.slice (some ⟨w.heap.size, 0, none⟩) (n + 1) G) W1 := fun ty => by
    have h := Lib.run_append_grow_zeros w 63 3 ty 65 i0 Z .i64 .i64 Tryd.underlying63 Tryd.underlying3 hi0 hz0 (some ⟨g, 0, none⟩) i n (xs.take (i * 6)) hold (n + 1 - i) (by omega) (by omega) (by omega) (by omega) (by rw [hzb]; omega) (by rw [hzb, hik]; exact growslice_fits (by omega) (by omega))
    rw [hik, ← hG, ← hROW, ← hW1] at h
    rw [hkk]
    exact h
  have hzc : Z.cells.size = 6 := by rw [hZ]; rfl
  have hRsz : ROW.size = G * 6 := by
    rw [hROW]
    simp only [Array.size_append, List.size_toArray, List.length_take, hxl, Builtin.zeroCells, Array.size_map, Array.size_range, hzc]
    omega
  have hRt : ROW.toList.take (i * 6) = xs.take (i * 6) := by
    rw [hROW, Array.toList_append, Array.toList_append, List.append_assoc]
    exact List.take_left' (by simp only [List.length_take, hxl]; omega)
  have hr1 : W1.heap[w.heap.size]? = some (.cells ROW 65 (0, 0)) := by rw [hW1]; exact blk_new w.drew _
  have hB1 : Below w.heap.size w W1 := by rw [hW1]; exact (below_drew (Below.refl _ w)).alloc (Nat.le_refl _) _
  obtain ⟨C1, hC1⟩ : ∃ C1 : Array Value, C1 = (ROW.toList.take (i * 6) ++ ys ++ ROW.toList.drop (i * 6 + ys.length)).toArray := ⟨_, rfl⟩
  obtain ⟨C2, hC2⟩ : ∃ C2 : Array Value, C2 = (C1.toList.take ((i + 1) * 6) ++ xs.drop (i * 6) ++ C1.toList.drop ((i + 1) * 6 + (xs.drop (i * 6)).length)).toArray := ⟨_, rfl⟩
  have hsp := splice_new ROW.toList xs ys (i * 6) 6 (n * 6) (by omega) hxl (by simp only [Array.length_toList]; omega) hy hRt
  simp only at hsp
  have e1 : C1.toList = ROW.toList.take (i * 6) ++ ys ++ ROW.toList.drop (i * 6 + 6) := by rw [hC1, hy]
  rw [← e1] at hsp
  have e2 : C2.toList = C1.toList.take (i * 6 + 6) ++ xs.drop (i * 6) ++ C1.toList.drop (i * 6 + 6 + (n * 6 - i * 6)) := by
    rw [hC2, hdl, show (i + 1) * 6 = i * 6 + 6 by omega, show (n - i) * 6 = n * 6 - i * 6 by omega]
  rw [← e2] at hsp
  obtain ⟨W2, hW2⟩ : ∃ W2, W2 = W1.setRow w.heap.size C1 := ⟨_, rfl⟩
  have hr2 : W2.heap[w.heap.size]? = some (.cells C1 65 (0, 0)) := by rw [hW2]; exact setRow_heap W1 _ ROW C1 65 (0, 0) hr1
  have hB2 : Below w.heap.size w W2 := by rw [hW2]; exact ⟨hB1.os, hB1.tape, hB1.output, by rw [setRow_size]; exact hB1.size, fun k hk => (setRow_other W1 _ k C1 (by omega)).trans (hB1.block k hk)⟩
  have hcpA : ∀ ty dc, (Builtin.copy_ #[63, 63] ty #[.slice (some ⟨w.heap.size, i * 6, none⟩) (n + 1 - i) dc, .slice (some ⟨vb, 0, none⟩) 1 1]).run Tryd.prog W1 = .ok (goInt (Nat.min 1 (n + 1 - i))) W2 := fun ty dc => by
    have hvb1 : W1.heap[vb]? = some (.cells ys.toArray 65 (0, 0)) := (hB1.block vb hvw).trans hb
    rw [run_copy_rowK W1 63 63 ty 65 6 w.heap.size (i * 6) _ dc ⟨vb, 0, none⟩ 1 1 ROW 65 ys Tryd.underlying63 (by kernel_rfl) hr1 (by rw [hy]; simp only [Nat.min_def]; split <;> omega) (fun j v hj => by rw [add_plain, blk_cell hvb1]; simpa using hj) (by omega) h1y, ← hC1, ← hW2]
  obtain ⟨W3, hW3⟩ : ∃ W3, W3 = W2.drew.setRow w.heap.size C2 := ⟨_, rfl⟩
  have hd2 : W2.drew.heap[w.heap.size]? = some (.cells C1 65 (0, 0)) := hr2
  have hr3 : W3.heap[w.heap.size]? = some (.cells C2 65 (0, 0)) := by rw [hW3]; exact setRow_heap W2.drew _ C1 C2 65 (0, 0) hd2
  have hB3 : Below w.heap.size w W3 := by rw [hW3]; exact ⟨hB2.os, hB2.tape, hB2.output, by rw [setRow_size]; exact hB2.size, fun k hk => (setRow_other W2.drew _ k C2 (by omega)).trans (hB2.block k hk)⟩
  have hcpB : ∀ ty dc sc, (Builtin.copy_ #[63, 63] ty #[.slice (some ⟨w.heap.size, (i + 1) * 6, none⟩) (n - i) dc, .slice (some ⟨g, i * 6, none⟩) (n - i) sc]).run Tryd.prog W2.drew = .ok (goInt (Nat.min (n - i) (n - i))) W3 := fun ty dc sc => by
    rw [run_copy_rowK W2.drew 63 63 ty 65 6 w.heap.size ((i + 1) * 6) _ dc ⟨g, i * 6, none⟩ _ sc C1 65 (xs.drop (i * 6)) Tryd.underlying63 (by kernel_rfl) hd2 (by rw [hdl]; congr 1; simp only [Nat.min_def]; split <;> omega) (fun j v hj => by
      rw [Addr.add_lit]
      have h0 : W2.drew.cell? ⟨g, i * 6 + j, none⟩ = w.cell? ⟨g, i * 6 + j, none⟩ := hB2.cell (p := ⟨g, i * 6 + j, none⟩) hbw
      rw [h0]
      exact hcell _ v (by rwa [List.getElem?_drop] at hj)) (by have := hsp.1; simp only [Array.length_toList] at this; rw [hdl]; omega) (fun v hv => h1x v (List.mem_of_mem_drop hv)), ← hC2, ← hW3]
  have HSP := Lib.hid hsp
  have HR3 := Lib.hid hr3
  have HB3 := Lib.hid hB3
  have HGn := Lib.hid hGn
  have HGm := Lib.hid hGm
  have HRs := Lib.hid hRsz
  have HCB := Lib.hid hcpB
  have hGi : ¬ (G = i) := by omega
  have hGim : ¬ (G = i + 1) := by omega
  have hci : ¬ (n = i) := by omega
  have hG63 : G ≤ 9223372036854775807 := by unfold maxLen at hGm; omega
  clear hik hbw hvw hcl hxl hdl hcell hold hz0 hzs hzb hi0 hG hZ hROW hW1 hGm hzc hRsz hRt hr1 hB1 hC1 hC2 e1 e2 hsp hW2 hr2 hB2 hW3 hd2 hr3 hB3 hg hx hc hb hy h1x h1y hcpB hkk
  go_enter Tryd.func80, Tryd.ntmps80
  go_wp2_with (at_builtin; refine Lib.wpList_append_run _ rfl _ _ _ _ rfl _ _ rfl rfl _ _ (hrz _) ?_)
  have hcpB := HCB.out
  go_region
  clear hcpB
  go_wp2
  go_ret
  exact ⟨G, C2, rfl, HGn.out, HGm.out, by have := HSP.out.2.1; have h2 := HRs.out; simp only [Array.length_toList] at this; omega, by rw [show (n + 1) * 6 = n * 6 + 6 by omega]; exact HSP.out.2.2, HR3.out, HB3.out⟩
theorem reps_split {l : List S65} {cs : List Value} (i : Nat) (x : S65) (h : Reps (fun (y : S65) (c : List Value) => c = cellsL y) 6 l cs) (hi : i ≤ l.length) :
    Reps (fun (y : S65) (c : List Value) => c = cellsL y) 6 (l.take i ++ [x] ++ l.drop i) (cs.take (i * 6) ++ cellsL x ++ cs.drop (i * 6)) := by
  have h1 := Kd.reps_take (m := i) h hi
  have h2 := Kd.reps_drop (m := i) h
  have h3 := h1.snoc (p := x) (c := cellsL x) rfl rfl
  exact Kd.reps_append h3 h2
theorem cells_one (x : S65) : ∀ u ∈ cellsL x, u.oneCell' = true := by
  intro u hu
  simp only [cellsL, List.mem_cons, List.not_mem_nil, or_false] at hu
  rcases hu with rfl | rfl | rfl | rfl | rfl | rfl <;> rfl
theorem reps_one {l : List S65} {cs : List Value} (h : Reps (fun (y : S65) (c : List Value) => c = cellsL y) 6 l cs) : ∀ u ∈ cs, u.oneCell' = true := by
  intro u hu
  obtain ⟨j, hj, rfl⟩ := List.mem_iff_getElem.1 hu
  have hl := h.1
  have hp : j / 6 < l.length := by omega
  have := h.2 (j / 6) _ (List.getElem?_eq_getElem hp)
  refine cells_one l[j / 6] _ ?_
  rw [← this]
  refine List.mem_iff_getElem.2 ⟨j % 6, ?_, ?_⟩
  · rw [List.length_take, List.length_drop]; omega
  · rw [List.getElem_take, List.getElem_drop]
    congr 1; omega
theorem kM_iff {w : World} {B : Nat} {ok : Nat → Prop} (x : S65) (c : List Value) : k65.M w B ok x c ↔ c = cellsL x := ⟨k65_openM, fun h => by subst h; exact k65_mkM _ _ _ x⟩
theorem R_iff {w : World} {B : Nat} {v : Value} {l : List S65} : Kd.R k65 65 w B (fun _ => True) v l ↔ ∃ cs, w.ownsRow B 65 6 v l.length cs ∧ Reps (fun (y : S65) (c : List Value) => c = cellsL y) 6 l cs := by
  constructor
  · rintro ⟨_, cs, h1, h2⟩
    exact ⟨cs, h1, h2.imp_ (fun p c h => (kM_iff p c).1 h)⟩
  · rintro ⟨cs, h1, h2⟩
    exact ⟨fun _ _ => trivial, cs, h1, h2.imp_ (fun p c h => (kM_iff p c).2 h)⟩
theorem insert_c (l : List S65) (v : Value) (x : S65) (i B vb : Nat) (w : World) (hR : Kd.R k65 65 w B (fun _ => True) v l) (hB : B ≤ w.heap.size) (hb : w.heap[vb]? = some (.cells (cellsL x).toArray 65 (0, 0))) (hne : some vb ≠ v.ownBlock) (hl : l.length ≤ 4096) (hi : i ≤ l.length) :
    Calls Tryd.prog 80 #[v, .int .i64 i, .slice (some ⟨vb, 0, none⟩) 1 1] w fun e w' => ∃ v', e = .returned v' ∧ Kd.R k65 65 w' B (fun _ => True) v' (insL l i x) ∧ Below B w w' := by
  by_cases he : i = l.length
  · subst he
    refine (insert_end l v x B vb w hR hB hb hne hl).mono fun e w' h => ?_
    unfold insL
    rw [List.take_length, List.drop_length, List.append_nil]
    exact h
  · obtain ⟨cs, ⟨hcl, ho⟩, hr⟩ := R_iff.1 hR
    rcases ho with ⟨rfl, h0⟩ | ⟨g, cap, cur, rfl, hBg, hg, hnc, hcm, hcs, hct⟩
    · omega
    · have hvg : vb ≠ g := fun e => hne (by rw [e]; rfl)
      have hcl2 : cur.toList.length = cap * 6 := by simpa using hcs
      have fin : ∀ (W : World) (row : Array Value) (b c2 : Nat), B ≤ b → W.heap[b]? = some (.cells row 65 (0, 0)) → l.length + 1 ≤ c2 → c2 ≤ maxLen → row.size = c2 * 6 → row.toList.take ((l.length + 1) * 6) = cs.take (i * 6) ++ cellsL x ++ cs.drop (i * 6) → Kd.R k65 65 W B (fun _ => True) (.slice (some ⟨b, 0, none⟩) (l.length + 1) c2) (insL l i x) := by
        intro W row b c2 h1 h2 h3 h4 h5 h6
        have hlen : (insL l i x).length = l.length + 1 := by unfold insL; simp only [List.length_append, List.length_take, List.length_drop, List.length_singleton]; omega
        refine R_iff.2 ⟨_, ⟨?_, .inr ⟨b, c2, row, by rw [hlen], h1, h2, by rw [hlen]; exact h3, h4, h5, by rw [hlen]; exact h6⟩⟩, reps_split i x hr hi⟩
        rw [hlen]
        simp only [List.length_append, List.length_take, List.length_drop, hcl]
        have : (cellsL x).length = 6 := rfl
        omega
      by_cases hroom : l.length + 1 ≤ cap
      · refine (insert_shift g cap i l.length cs (cellsL x) cur vb w hg hcs hroom (by unfold maxLen at hcm; omega) (by omega) hl hct hb rfl hvg (reps_one hr) (cells_one x)).mono ?_
        rintro e w' ⟨rfl, cur2, h1, h2, rfl⟩
        refine ⟨_, rfl, fin _ cur2 g cap hBg ?_ hroom hcm (by omega) h2, ?_⟩
        · exact setRow_heap w.drew g cur cur2 65 (0, 0) hg
        · exact ⟨rfl, rfl, rfl, by rw [setRow_size]; exact Nat.le_refl _, fun k hk => setRow_other w.drew g k cur2 (by omega)⟩
      · refine (insert_grow g cap i l.length cs (cellsL x) cur vb w hg hcs (by omega) (by omega) hl hct hb rfl (reps_one hr) (cells_one x)).mono ?_
        rintro e w' ⟨c2, row, rfl, h1, h2, h3, h4, h5, h6⟩
        exact ⟨_, rfl, fin _ row _ c2 hB h5 h1 h2 h3 h4, h6.mono hB⟩
end Go.Proofs.YtjbcfdgnafmbkaaDoor.Dev
end
