/- Lemmas, walks and printed functions for the claim. -/
import Derived.Test.YtjbcfdgnafmbkaaDoorSDOM1
import Derived.Test.YtjbcfdgnafmbkaaDoorSDOM2
import Derived.Test.YtjbcfdgnafmbkaaDoorSDOM7
import Derived.Test.YtjbcfdgnafmbkaaDoorSDOM15
import Derived.Test.YtjbcfdgnafmbkaaDoorSDOM16
import Derived.Test.YtjbcfdgnafmbkaaDoorSDOM20
section
set_option linter.unusedVariables false
namespace Go.Proofs.YtjbcfdgnafmbkaaDoor.Cod
open Go.RowKit Go.Proofs.YtjbcfdgnafmbkaaDoor Go.Proofs.YtjbcfdgnafmbkaaDoorW.PrintWords Go.Proofs.YtjbcfdgnafmbkaaDoor.PBig Go.Proofs.YtjbcfdgnafmbkaaDoor.PCu
def Itm (w : World) (x : S93) (v : Value) : Prop :=
  (∃ n : Int, -9223372036854775808 ≤ n ∧ n < 9223372036854775808 ∧ x = ⟨1, n, ByteArray.empty, []⟩ ∧ v = .iface 3 (.int .i64 n)) ∨
  (∃ (A : Option Addr) (c : Nat) (l : List Int), x = ⟨2, 0, strOfNums l, []⟩ ∧ v = .iface 22 (.slice A l.length c) ∧ Kd.C (Kd.int .u8) w A l.length l)
theorem Itm.below {w w' : World} {x : S93} {v : Value} (h : Itm w x v) (hb : Below w.heap.size w w') : Itm w' x v :=
  h.imp id fun ⟨A, c, l, e1, e2, hc⟩ => ⟨A, c, l, e1, e2, Kd.C_below hc hb⟩
theorem Itm.ok {w : World} {x : S93} {v : Value} (h : Itm w x v) : okV 1 x := by
  rcases h with ⟨n, h1, h2, rfl, _⟩ | ⟨A, c, l, rfl, _, _⟩
  · exact ⟨h1, h2, .inl ⟨rfl, rfl, rfl⟩⟩
  · exact ⟨show (-9223372036854775808 : Int) ≤ 0 by decide, show (0 : Int) < 9223372036854775808 by decide, .inr (.inl ⟨rfl, rfl, rfl⟩)⟩
theorem assertI_I (W : World) (v : Value) : (Instr.typeAssert (.iface 3 v) 20 3 true).run Tryd.prog W = .ok (.tuple #[v, .bool true]) W := by kernel_rfl
theorem assertI_B (W : World) (v : Value) : (Instr.typeAssert (.iface 22 v) 20 3 true).run Tryd.prog W = .ok (.tuple #[.int .i64 0, .bool false]) W := by kernel_rfl
theorem assertB_B (W : World) (v : Value) : (Instr.typeAssert (.iface 22 v) 20 22 true).run Tryd.prog W = .ok (.tuple #[v, .bool true]) W := by kernel_rfl
attribute [local go_sem] assertI_I assertI_B assertB_B
set_option maxHeartbeats 2000000 in
set_option maxRecDepth 100000 in
theorem list_c (xs : List S93) (g c : Nat) (w : World) (hn : xs.length ≤ 100) (hi : ∀ i, i < xs.length → ∃ v, w.cell? ⟨g, i, none⟩ = some v ∧ Itm w (xs.getD i z93) v) (hl : (encF 2 ⟨3, 0, ByteArray.empty, xs⟩).length + 40 ≤ 70368744177664) :
    Calls Tryd.prog 90 #[.slice (some ⟨g, 0, none⟩) xs.length c] w fun e w' => ∃ v, e = .returned v ∧ OwnB w' w.heap.size v (encF 2 ⟨3, 0, ByteArray.empty, xs⟩) ∧ Below w.heap.size w w' := by
  have HI := Lib.hid hi
  have HL := Lib.hid hl
  clear hi hl
  go_enter Tryd.func90, Tryd.ntmps90
  go_wp2_with fail
  have hg : 0 < xs.length → g < w.heap.size := fun h => by obtain ⟨v, hv, _⟩ := HI.out 0 h; exact World.block_lt_of_cell? w ⟨g, 0, none⟩ hv
  generalize hW1 : w.alloc _ = W1
  have HB1 : Hid (Below w.heap.size w W1) := Lib.hid (by rw [← hW1]; exact below_alloc (Below.refl _ w) _)
  have BK1 : Hid (W1.heap[w.heap.size]? = some (.cells #[.int .i64 3, .int .i64 0, .string ⟨#[]⟩, .slice none 0 0] 93 (0, 0))) := Lib.hid (by rw [← hW1]; exact blk_new w _)
  clear hW1
  go_loopw [13] (fun v13 wr => ∃ (i : Nat) (u : Value), i ≤ xs.length ∧ v13 = .int .i64 i ∧ Hid (Below w.heap.size w wr) ∧ Hid (wr.heap[w.heap.size]? = some (.cells #[.int .i64 3, .int .i64 0, .string ⟨#[]⟩, u] 93 (0, 0))) ∧ Hid (Kd.R k93 93 wr w.heap.size (fun k => k ≠ w.heap.size) u (xs.take i))) (fun v13 _ => xs.length - (intOf v13).toNat)
  case atStart => exact ⟨0, .slice none 0 0, by omega, rfl, HB1, BK1, Lib.hid (by rw [List.take_zero]; exact Kd.R_nil _ _ _ _ _)⟩
  case round =>
    obtain ⟨i, u, hil, rfl, HBr, BK, HO⟩ := hrel
    by_cases hlt : i < xs.length
    · obtain ⟨v, hv, hitm⟩ := HI.out i hlt
      have hcv : wr.cell? ⟨g, i, none⟩ = some v := (HBr.out.cell (hg (by omega))).trans hv
      have hs3 : wr.cell? ⟨w.heap.size, 3, none⟩ = some u := (blk_cell BK.out 3).trans rfl
      have hfs3 := blk_frozen BK.out 3
      rcases hitm.below HBr.out with ⟨n, h1, h2, hx, rfl⟩ | ⟨A2, c2, l2, hx, rfl, hC2⟩
      · clear hv hitm
        go_wp2_with (at_builtin; refine Kd.R_append k93 (w0 := w) w.heap.size rfl (.tmp 22) (.tmp 25) 91 93 (.agg #[.int .i64 0, .int .i64 0, .string ⟨#[]⟩, .slice none 0 0]) 56 rfl Tryd.underlying91 info93 rfl (by decide) (by decide) u (xs.take i) ⟨1, n, ByteArray.empty, []⟩ [.int .i64 1, .int .i64 n, .string ⟨#[]⟩, .slice none 0 0] (fun k => k ≠ w.heap.size) (fun k => k ≠ w.heap.size ∧ some k ≠ u.ownBlock) rfl rfl (k93_mkM _ _ _ _ (Kd.R_nil _ _ _ _ _)) (fun _ hk => hk) (fun k hk => by have := blk_lt BK.out; omega) HO.out HBr.out HBr.out.size (by simp only [List.length_take]; omega) ?_; intro v1 w1 ho hb hg hat; obtain ⟨Ao, co, rfl⟩ := Kd.R_slice ho; have HO1 := Lib.hid ho; have HB1 := Lib.hid hb; have BKn := Lib.hid (blk_grown BK.out hg (fun e => (HO.out.1 _ e.symm) rfl)); clear ho hb hg hat; have hs4 : w1.cell? ⟨w.heap.size, 3, none⟩ = some u := (blk_cell BKn.out 3).trans rfl; have hfs4 := blk_frozen BKn.out 3)
        go_roundw
        case rel => exact ⟨i + 1, _, by omega, by go_num, Lib.hid (below_set HB1.out (Nat.le_refl _)), Lib.hid (blk_put BKn.out 3 _ rfl), Lib.hid (by rw [take_snoc xs i hlt z93, hx]; have hq := HO1.out; rw [show ∀ y : S93, (xs.take i ++ [y]).length = i + 1 from fun y => by simp; omega] at hq; exact Kd.R_far (p := ⟨w.heap.size, 3, none⟩) hq (fun k hk => hk) _)⟩
        case measure => simp [intOf]; omega
      · clear hv hitm
        have hcs := Kd.C_string (src := 22) (dst := 9) (e := 5) (c := c2) (P := Tryd.prog) und22 (by kernel_rfl) (by kernel_rfl) hC2
        go_wp2_with (at_builtin; refine Kd.R_append k93 (w0 := w) w.heap.size rfl (.tmp 32) (.tmp 36) 91 93 (.agg #[.int .i64 0, .int .i64 0, .string ⟨#[]⟩, .slice none 0 0]) 56 rfl Tryd.underlying91 info93 rfl (by decide) (by decide) u (xs.take i) ⟨2, 0, strOfNums l2, []⟩ [.int .i64 2, .int .i64 0, .string (strOfNums l2), .slice none 0 0] (fun k => k ≠ w.heap.size) (fun k => k ≠ w.heap.size ∧ some k ≠ u.ownBlock) rfl rfl (k93_mkM _ _ _ _ (Kd.R_nil _ _ _ _ _)) (fun _ hk => hk) (fun k hk => by have := blk_lt BK.out; omega) HO.out HBr.out HBr.out.size (by simp only [List.length_take]; omega) ?_; intro v1 w1 ho hb hg hat; obtain ⟨Ao, co, rfl⟩ := Kd.R_slice ho; have HO1 := Lib.hid ho; have HB1 := Lib.hid hb; have BKn := Lib.hid (blk_grown BK.out hg (fun e => (HO.out.1 _ e.symm) rfl)); clear ho hb hg hat; have hs4 : w1.cell? ⟨w.heap.size, 3, none⟩ = some u := (blk_cell BKn.out 3).trans rfl; have hfs4 := blk_frozen BKn.out 3)
        go_roundw
        case rel => exact ⟨i + 1, _, by omega, by go_num, Lib.hid (below_set HB1.out (Nat.le_refl _)), Lib.hid (blk_put BKn.out 3 _ rfl), Lib.hid (by rw [take_snoc xs i hlt z93, hx]; have hq := HO1.out; rw [show ∀ y : S93, (xs.take i ++ [y]).length = i + 1 from fun y => by simp; omega] at hq; exact Kd.R_far (p := ⟨w.heap.size, 3, none⟩) hq (fun k hk => hk) _)⟩
        case measure => simp [intOf]; omega
    · have e : i = xs.length := by omega
      subst e
      have HO2 := Lib.hid (show Kd.R k93 93 wr w.heap.size (fun k => k ≠ w.heap.size) u xs by have := HO.out; rw [List.take_length] at this; exact this)
      clear HO
      obtain ⟨A, cc, rfl, hcc, hCx⟩ := Kd.R_reads HO2.out
      have hok : okV 2 ⟨3, 0, ByteArray.empty, xs⟩ := ⟨show (-9223372036854775808 : Int) ≤ 0 by decide, show (0 : Int) < 9223372036854775808 by decide, .inr (.inr ⟨rfl, rfl, rfl, fun y hy => by
        obtain ⟨j, hj, rfl⟩ := List.mem_iff_getElem.1 hy
        obtain ⟨v, _, hv⟩ := HI.out j hj
        have := hv.ok
        rw [List.getD_eq_getElem?_getD, List.getElem?_eq_getElem hj, Option.getD_some] at this
        exact this⟩)⟩
      have HE := Lib.hid (encode_c 2 ⟨3, 0, ByteArray.empty, xs⟩ A cc wr (by decide) hok hCx hcc (Nat.le_trans (dep_le 2 _) (by decide)) HL.out)
      clear hCx hok
      unfold agg93 at HE
      simp only at HE
      have hb0 := (blk_cell BK.out 0).trans rfl
      have hb1 := (blk_cell BK.out 1).trans rfl
      have hb2 := (blk_cell BK.out 2).trans rfl
      have hb3 := (blk_cell BK.out 3).trans rfl
      go_wp2_with (go_at_call 59; refine HE.out.mono ?_; rintro e w5 ⟨v5, rfl, hO, hB⟩; have HO5 := Lib.hid hO; have HB5 := Lib.hid hB; clear hO hB)
      go_ret
      exact ⟨_, rfl, Kd.R_lower HO5.out HBr.out.size, HBr.out.trans (HB5.out.mono HBr.out.size)⟩
end Go.Proofs.YtjbcfdgnafmbkaaDoor.Cod
end
section
set_option linter.unusedVariables false
namespace Go.Proofs.YtjbcfdgnafmbkaaDoor.Cod
open Go.RowKit Go.Proofs.YtjbcfdgnafmbkaaDoor Go.Proofs.YtjbcfdgnafmbkaaDoorW.PrintWords Go.Proofs.YtjbcfdgnafmbkaaDoor.PBig Go.Proofs.YtjbcfdgnafmbkaaDoor.PCu
theorem power_c (a n : Int) (w : World) (hv : validB a = true) : Calls Tryd.prog 89 #[.int .i64 a, .int .i64 n] w fun e w' => e = .returned (.int .i64 (powI a n)) ∧ Below w.heap.size w w' := by
  have HV := Lib.hid hv
  clear hv
  go_enter Tryd.func89, Tryd.ntmps89
  go_wp2_with (go_at_call 35; refine (group_Pow.calls a n (powI a n) 0 w (by rw [group_Pow.f, if_pos HV.out])).mono ?_; rintro e w' ⟨rfl, hb⟩; have HB := Lib.hid hb; clear hb)
  go_ret
  exact ⟨rfl, HB.out⟩
theorem enc_lt : ∀ (k : Nat) (x : S93), okV k x → x.f3.length < 18446744073709551616 → x.f2.size < 18446744073709551616 → (∀ y ∈ x.f3, y.f3.length < 18446744073709551616 ∧ y.f2.size < 18446744073709551616) → k ≤ 2 → ∀ b ∈ encF k x, b < 256
  | 0, x, h, _, _, _, _, b, hb => h.elim
  | k + 1, x, h, h3, h2, hr, hk, b, hb => by
    obtain ⟨l1, l2, h⟩ := h
    rw [encF] at hb
    rcases h with ⟨e, _, _⟩ | ⟨e, _, _⟩ | ⟨e, _, _, hc⟩
    · rw [if_pos e] at hb
      rcases List.mem_cons.1 hb with rfl | hb
      · omega
      · exact num_lt 9 _ (Nat.lt_of_lt_of_le (zz_lt l1 l2) (by decide)) b hb
    · rw [if_neg (by omega), if_pos e] at hb
      rcases List.mem_cons.1 hb with rfl | hb
      · omega
      · rcases List.mem_append.1 hb with hb | hb
        · exact num_lt 9 _ (Nat.lt_of_lt_of_le h2 (by decide)) b hb
        · exact Sha.strL_lt _ b hb
    · rw [if_neg (by omega), if_neg (by omega)] at hb
      rcases List.mem_cons.1 hb with rfl | hb
      · omega
      · rcases List.mem_append.1 hb with hb | hb
        · exact num_lt 9 _ (Nat.lt_of_lt_of_le h3 (by decide)) b hb
        · obtain ⟨l, hl, hb⟩ := List.mem_flatten.1 hb
          obtain ⟨y, hy, rfl⟩ := List.mem_map.1 hl
          cases k with
          | zero => exact (hc y hy).elim
          | succ k =>
            have hk0 : k = 0 := by omega
            subst hk0
            have hy0 := hc y hy
            refine enc_lt 1 y hy0 (hr y hy).1 (hr y hy).2 ?_ (by decide) b hb
            obtain ⟨_, _, hy0⟩ := hy0
            rcases hy0 with ⟨_, _, e⟩ | ⟨_, _, e⟩ | ⟨_, _, _, e⟩
            · rw [e]; simp
            · rw [e]; simp
            · intro z hz; exact (e z hz).elim
def tri (r key : Int) (l : List Int) : List S93 := [⟨1, r, ByteArray.empty, []⟩, ⟨1, key, ByteArray.empty, []⟩, ⟨2, 0, strOfNums l, []⟩]
def duo (s : Int) (l : List Int) : List S93 := [⟨1, s, ByteArray.empty, []⟩, ⟨2, 0, strOfNums l, []⟩]
def encL (xs : List S93) : List Nat := encF 2 ⟨3, 0, ByteArray.empty, xs⟩
def hsh (r key : Int) (l : List Int) : Int := (Sha.hashN (Sha.strL ⟨#[115, 105, 103, 110]⟩) (encL (tri r key l)) : Int)
def okE (xs : List S93) : Prop := (encL xs).length ≤ 1099511627776 ∧ ∀ b ∈ encL xs, b < 256
theorem encL_tri (r key : Int) (l : List Int) (h1 : -9223372036854775808 ≤ r) (h2 : r < 9223372036854775808) (h3 : -9223372036854775808 ≤ key) (h4 : key < 9223372036854775808) (hl : l.length ≤ 1048576) : okE (tri r key l) := by
  have hs : (strOfNums l).size = l.length := strOfNums_size l
  constructor
  · have n1 := num_len10 (zz_lt h1 h2)
    have n2 := num_len10 (zz_lt h3 h4)
    have n3 := num_len10 (show l.length < 18446744073709551616 by omega)
    simp [encL, encF, tri, num_small, hs, Sha.strL_length]
    omega
  · refine enc_lt 2 _ ⟨show (-9223372036854775808 : Int) ≤ 0 by decide, show (0 : Int) < 9223372036854775808 by decide, .inr (.inr ⟨rfl, rfl, rfl, ?_⟩)⟩ ?_ ?_ ?_ (by decide)
    · intro y hy
      simp only [tri, List.mem_cons, List.not_mem_nil, or_false] at hy
      rcases hy with rfl | rfl | rfl
      · exact ⟨h1, h2, .inl ⟨rfl, rfl, rfl⟩⟩
      · exact ⟨h3, h4, .inl ⟨rfl, rfl, rfl⟩⟩
      · exact ⟨show (-9223372036854775808 : Int) ≤ 0 by decide, show (0 : Int) < 9223372036854775808 by decide, .inr (.inl ⟨rfl, rfl, rfl⟩)⟩
    · simp [tri]
    · simp
    · intro y hy
      simp only [tri, List.mem_cons, List.not_mem_nil, or_false] at hy
      rcases hy with rfl | rfl | rfl <;> simp [hs] <;> omega
theorem encL_duo (s : Int) (l : List Int) (h1 : -9223372036854775808 ≤ s) (h2 : s < 9223372036854775808) (hl : l.length ≤ 1048576) : okE (duo s l) := by
  have hs : (strOfNums l).size = l.length := strOfNums_size l
  constructor
  · have n1 := num_len10 (zz_lt h1 h2)
    have n3 := num_len10 (show l.length < 18446744073709551616 by omega)
    simp [encL, encF, duo, num_small, hs, Sha.strL_length]
    omega
  · refine enc_lt 2 _ ⟨show (-9223372036854775808 : Int) ≤ 0 by decide, show (0 : Int) < 9223372036854775808 by decide, .inr (.inr ⟨rfl, rfl, rfl, ?_⟩)⟩ ?_ ?_ ?_ (by decide)
    · intro y hy
      simp only [duo, List.mem_cons, List.not_mem_nil, or_false] at hy
      rcases hy with rfl | rfl
      · exact ⟨h1, h2, .inl ⟨rfl, rfl, rfl⟩⟩
      · exact ⟨show (-9223372036854775808 : Int) ≤ 0 by decide, show (0 : Int) < 9223372036854775808 by decide, .inr (.inl ⟨rfl, rfl, rfl⟩)⟩
    · simp [duo]
    · simp
    · intro y hy
      simp only [duo, List.mem_cons, List.not_mem_nil, or_false] at hy
      rcases hy with rfl | rfl <;> simp [hs] <;> omega
theorem Laid.below {A B : World} (h : Sha.Laid A) (g : Below A.heap.size A B) : Sha.Laid B :=
  ⟨fun i hi => (g.cell (World.block_lt_of_cell? A _ (h.h i hi))).trans (h.h i hi), fun i hi => (g.cell (World.block_lt_of_cell? A _ (h.k i hi))).trans (h.k i hi)⟩
theorem Laid.two {A : World} (h : Sha.Laid A) : 2 ≤ A.heap.size := by
  have h1 := World.block_lt_of_cell? A _ (h.h 0 (by decide))
  have h2 := World.block_lt_of_cell? A _ (h.k 0 (by decide))
  simp at h1 h2
  omega
theorem hash_own (tag : ByteArray) (v : Value) (xs : List S93) (B : Nat) (w : World) (hO : OwnB w B v (encL xs)) (ho : okE xs) (ht : tag.size ≤ 100) (hL : Sha.Laid w) :
    Calls Tryd.prog 20 #[.string tag, v] w fun e w' => e = .returned (.int .i64 (Sha.hashN (Sha.strL tag) (encL xs) : Nat)) ∧ Below w.heap.size w w' := by
  obtain ⟨A, c, rfl, hc, hC⟩ := Kd.R_reads hO
  rw [Sha.toI_length] at *
  exact (Sha.hash_c tag A c (encL xs) w hC ho.2 (by omega) ho.1 hL (Laid.two hL)).mono fun e w' h => ⟨h.1, (Below.refl _ _).grown h.2 (Nat.le_refl _) (by simp)⟩
theorem tri_cells (w : World) (r key : Int) (A : Option Addr) (c : Nat) (l : List Int) (h1 : -9223372036854775808 ≤ r) (h2 : r < 9223372036854775808) (h3 : -9223372036854775808 ≤ key) (h4 : key < 9223372036854775808) (hC : Kd.C (Kd.int .u8) w A l.length l) :
    ∀ i, i < (tri r key l).length → ∃ v, (w.alloc (.cells #[.iface 3 (.int .i64 r), .iface 3 (.int .i64 key), .iface 22 (.slice A l.length c)] 20)).cell? ⟨w.heap.size, i, none⟩ = some v ∧ Itm (w.alloc (.cells #[.iface 3 (.int .i64 r), .iface 3 (.int .i64 key), .iface 22 (.slice A l.length c)] 20)) ((tri r key l).getD i z93) v := by
  intro i hi
  match i, hi with
  | 0, _ => exact ⟨_, by simp, .inl ⟨r, h1, h2, rfl, rfl⟩⟩
  | 1, _ => exact ⟨_, by simp, .inl ⟨key, h3, h4, rfl, rfl⟩⟩
  | 2, _ => exact ⟨_, by simp, .inr ⟨A, c, l, rfl, rfl, Kd.C_alloc hC _⟩⟩
theorem duo_cells (w : World) (s : Int) (A : Option Addr) (c : Nat) (l : List Int) (h1 : -9223372036854775808 ≤ s) (h2 : s < 9223372036854775808) (hC : Kd.C (Kd.int .u8) w A l.length l) :
    ∀ i, i < (duo s l).length → ∃ v, (w.alloc (.cells #[.iface 3 (.int .i64 s), .iface 22 (.slice A l.length c)] 20)).cell? ⟨w.heap.size, i, none⟩ = some v ∧ Itm (w.alloc (.cells #[.iface 3 (.int .i64 s), .iface 22 (.slice A l.length c)] 20)) ((duo s l).getD i z93) v := by
  intro i hi
  match i, hi with
  | 0, _ => exact ⟨_, by simp, .inl ⟨s, h1, h2, rfl, rfl⟩⟩
  | 1, _ => exact ⟨_, by simp, .inr ⟨A, c, l, rfl, rfl, Kd.C_alloc hC _⟩⟩
theorem list_tri (r key : Int) (A : Option Addr) (c : Nat) (l : List Int) (w : World) (h1 : -9223372036854775808 ≤ r) (h2 : r < 9223372036854775808) (h3 : -9223372036854775808 ≤ key) (h4 : key < 9223372036854775808) (hC : Kd.C (Kd.int .u8) w A l.length l) (hl : l.length ≤ 1048576) :
    Calls Tryd.prog 90 #[.slice (some ⟨w.heap.size, 0, none⟩) 3 3] (w.alloc (.cells #[.iface 3 (.int .i64 r), .iface 3 (.int .i64 key), .iface 22 (.slice A l.length c)] 20)) fun e w' => ∃ v, e = .returned v ∧ OwnB w' w.heap.size v (encL (tri r key l)) ∧ Below w.heap.size w w' :=
  (list_c (tri r key l) w.heap.size 3 _ (by simp [tri]) (tri_cells w r key A c l h1 h2 h3 h4 hC) (by have := (encL_tri r key l h1 h2 h3 h4 hl).1; unfold encL at this; omega)).mono fun e w' h => by
    obtain ⟨v, e1, hO, hb⟩ := h
    exact ⟨v, e1, Kd.R_lower hO (by simp), (below_alloc (Below.refl _ w) _).trans (hb.mono (by simp))⟩
theorem list_duo (s : Int) (A : Option Addr) (c : Nat) (l : List Int) (w : World) (h1 : -9223372036854775808 ≤ s) (h2 : s < 9223372036854775808) (hC : Kd.C (Kd.int .u8) w A l.length l) (hl : l.length ≤ 1048576) :
    Calls Tryd.prog 90 #[.slice (some ⟨w.heap.size, 0, none⟩) 2 2] (w.alloc (.cells #[.iface 3 (.int .i64 s), .iface 22 (.slice A l.length c)] 20)) fun e w' => ∃ v, e = .returned v ∧ OwnB w' w.heap.size v (encL (duo s l)) ∧ Below w.heap.size w w' :=
  (list_c (duo s l) w.heap.size 2 _ (by simp [duo]) (duo_cells w s A c l h1 h2 hC) (by have := (encL_duo s l h1 h2 hl).1; unfold encL at this; omega)).mono fun e w' h => by
    obtain ⟨v, e1, hO, hb⟩ := h
    exact ⟨v, e1, Kd.R_lower hO (by simp), (below_alloc (Below.refl _ w) _).trans (hb.mono (by simp))⟩
theorem Itm.drew {w : World} {x : S93} {v : Value} (h : Itm w x v) : Itm w.drew x v := h.below (below_drew1 (Below.refl _ w))
theorem list_triD (r key : Int) (A : Option Addr) (c : Nat) (l : List Int) (w : World) (h1 : -9223372036854775808 ≤ r) (h2 : r < 9223372036854775808) (h3 : -9223372036854775808 ≤ key) (h4 : key < 9223372036854775808) (hC : Kd.C (Kd.int .u8) w A l.length l) (hl : l.length ≤ 1048576) :
    Calls Tryd.prog 90 #[.slice (some ⟨w.heap.size, 0, none⟩) 3 3] (w.alloc (.cells #[.iface 3 (.int .i64 r), .iface 3 (.int .i64 key), .iface 22 (.slice A l.length c)] 20)).drew fun e w' => ∃ v, e = .returned v ∧ OwnB w' w.heap.size v (encL (tri r key l)) ∧ Below w.heap.size w w' :=
  (list_c (tri r key l) w.heap.size 3 _ (by simp [tri]) (fun i hi => by obtain ⟨v, h, hi⟩ := tri_cells w r key A c l h1 h2 h3 h4 hC i hi; exact ⟨v, h, hi.drew⟩) (by have := (encL_tri r key l h1 h2 h3 h4 hl).1; unfold encL at this; omega)).mono fun e w' h => by
    obtain ⟨v, e1, hO, hb⟩ := h
    exact ⟨v, e1, Kd.R_lower hO (by simp), (below_drew1 (below_alloc (Below.refl _ w) _)).trans (hb.mono (by simp))⟩
end Go.Proofs.YtjbcfdgnafmbkaaDoor.Cod
end
section
set_option linter.unusedVariables false
namespace Go.Proofs.YtjbcfdgnafmbkaaDoor.Cod
open Go.RowKit Go.Proofs.YtjbcfdgnafmbkaaDoor Go.Proofs.YtjbcfdgnafmbkaaDoorW.PrintWords Go.Proofs.YtjbcfdgnafmbkaaDoorW.PrintLast Go.Proofs.YtjbcfdgnafmbkaaDoorW.PrintMore Go.Proofs.YtjbcfdgnafmbkaaDoor.PBig Go.Proofs.YtjbcfdgnafmbkaaDoor.PCu
attribute [local go_sem] max2_int min2_int max_two min_two
def sigS : ByteArray := ⟨#[115, 105, 103, 110]⟩
def vfOk (key e s : Int) : Bool := decide (0 ≤ e) && decide (0 ≤ s) && decide (e < 1073741789) && decide (s < 1073741789) && validB key
def vfB (key : Int) (l : List Int) (e s : Int) : Bool := vfOk key e s && decide (e = hsh (mulI (powI 4 s) (powI key (-e))) key l)
theorem valid4 : validB 4 = true := valid_sq (n := 2) (by decide) (by decide)
theorem sig_keep {wa : World} {b : Nat} {e s : Int} (h : wa.cell? ⟨b, 0, none⟩ = some (.int .i64 e) ∧ wa.cell? ⟨b, 1, none⟩ = some (.int .i64 s)) :
    ∀ wb : World, Below wa.heap.size wa wb → wb.cell? ⟨b, 0, none⟩ = some (.int .i64 e) ∧ wb.cell? ⟨b, 1, none⟩ = some (.int .i64 s) := fun wb hb =>
  ⟨(hb.cell (World.block_lt_of_cell? wa _ h.1)).trans h.1, (hb.cell (World.block_lt_of_cell? wa _ h.2)).trans h.2⟩
set_option maxHeartbeats 2000000 in
set_option maxRecDepth 100000 in
theorem verify_yes (key : Int) (A : Option Addr) (c : Nat) (l : List Int) (e s : Int) (w : World) (hC : Kd.C (Kd.int .u8) w A l.length l) (hl : l.length ≤ 1048576) (hL : Sha.Laid w) (hv : vfOk key e s = true) :
    Calls Tryd.prog 53 #[.int .i64 key, .slice A l.length c, .agg #[.int .i64 e, .int .i64 s]] w fun en w' => en = .returned (.bool (decide (e = hsh (mulI (powI 4 s) (powI key (-e))) key l))) ∧ Below w.heap.size w w' := by
  unfold vfOk at hv
  simp only [Bool.and_eq_true, decide_eq_true_eq] at hv
  obtain ⟨⟨⟨⟨e0, s0⟩, e1⟩, s1⟩, hk⟩ := hv
  have HV1 := Lib.hid (valid_pow valid4 s)
  have HV2 := Lib.hid (valid_pow hk (-e))
  have HVM := Lib.hid (valid_mul HV1.out HV2.out)
  have HMU := Lib.hid (fun W => PGroup.group_Mul.calls (powI 4 s) (powI key (-e)) (mulI (powI 4 s) (powI key (-e))) 0 W (by rw [PGroup.mul_f, if_pos ⟨HV1.out, HV2.out⟩]))
  generalize mulI (powI 4 s) (powI key (-e)) = r at HVM HMU ⊢
  obtain ⟨k0, k1, _⟩ := validB_true hk
  obtain ⟨r0, r1, _⟩ := validB_true HVM.out
  have HLI := Lib.hid (fun (W : World) (hb : Below w.heap.size w W) => list_triD r key A c l W (by omega) (by omega) (by omega) (by omega) (Kd.C_below hC hb) hl)
  have HOE := encL_tri r key l (by omega) (by omega) (by omega) (by omega) hl
  have HH := Lib.hid (fun (v : Value) (B : Nat) (W : World) (hO : OwnB W B v (encL (tri r key l))) (hL : Sha.Laid W) => hash_own sigS v (tri r key l) B W hO HOE (by decide) hL)
  have hh : hsh r key l = (Sha.hashN (Sha.strL sigS) (encL (tri r key l)) : Int) := rfl
  rw [hh]
  generalize Sha.hashN (Sha.strL sigS) (encL (tri r key l)) = H at HH ⊢
  clear k0 k1 r0 r1 hh HOE
  unfold sigS at HH
  have HC := Lib.hid hC
  have HK := Lib.hid hk
  have HLd := Lib.hid hL
  clear hC hk hL
  obtain ⟨mn, hmn⟩ : ∃ m, (if s < e then s else e) = m := ⟨_, rfl⟩
  obtain ⟨mx, hmx⟩ : ∃ m, (if e < s then s else e) = m := ⟨_, rfl⟩
  have t1 : decide (mn < 0) = false := decide_eq_false (by rw [← hmn]; split <;> omega)
  have t2 : decide (1073741789 ≤ mx) = false := decide_eq_false (by rw [← hmx]; split <;> omega)
  go_enter Tryd.func53, Tryd.ntmps53
  go_wp2_with (go_at_call 38; refine (valid_any key _).mono ?_; rintro e' w' ⟨rfl, rfl⟩; rw [HK.out])
  generalize hW1 : w.alloc _ = W1
  have hs : W1.cell? ⟨w.heap.size, 0, none⟩ = some (.int .i64 e) ∧ W1.cell? ⟨w.heap.size, 1, none⟩ = some (.int .i64 s) := by rw [← hW1]; simp
  have HB := Lib.hid (show Below w.heap.size w W1 by rw [← hW1]; exact below_alloc (Below.refl _ w) _)
  clear hW1 hmn hmx t1 t2
  have hw : IntKind.i64.wrap (-e) = -e := by rw [IntKind.wrap_i64]; omega
  go_region_held3 (fun w' => w'.cell? ⟨w.heap.size, 0, none⟩ = some (.int .i64 e) ∧ w'.cell? ⟨w.heap.size, 1, none⟩ = some (.int .i64 s)) (first | go_keep | (exact hk)) (first | (go_at_call 89; (first | (with_reducible refine (power_c 4 s _ valid4).mono ?_) | (with_reducible refine (power_c key (-e) _ HK.out).mono ?_)); rintro e' w' ⟨rfl, hb⟩; have hk := sig_keep (by first | assumption | (simp; assumption)) w' hb; have n0 := Lib.hid (below_step (by first | exact HB.out | exact pw_below_drewN HB.out _) hb); clear HB; have HB := n0; clear n0; clear hb) | (go_at_call 37; with_reducible refine (HMU.out _).mono ?_; rintro e' w' ⟨rfl, ⟨nd, rfl⟩⟩))
  go_wp2
  have hk2 : (w'.drewN nd).cell? ⟨w.heap.size, 0, none⟩ = some (.int .i64 e) ∧ (w'.drewN nd).cell? ⟨w.heap.size, 1, none⟩ = some (.int .i64 s) := hk
  have HB2 := Lib.hid (pw_below_drewN HB.out nd)
  clear hk hs HB
  clear HMU
  generalize w'.drewN nd = W2 at hk2 HB2 ⊢
  go_region_held3 (fun w' => w'.cell? ⟨w.heap.size, 0, none⟩ = some (.int .i64 e) ∧ w'.cell? ⟨w.heap.size, 1, none⟩ = some (.int .i64 s)) (first | go_keep | (exact hk)) (first | (go_at_call 90; with_reducible refine (HLI.out _ (by first | exact HB2.out | exact pw_below_drewN HB2.out _)).mono ?_; rintro e' w' ⟨v, rfl, hO, hb⟩; have hk := sig_keep (by first | assumption | (simp; assumption)) w' hb; have n0 := Lib.hid (below_step (by first | exact HB2.out | exact pw_below_drewN HB2.out _) hb); clear HB2; have HB2 := n0; have HOv := Lib.hid hO; clear n0 hb hO) | (go_at_call 20; with_reducible refine (HH.out v _ _ HOv.out (Laid.below HLd.out HB2.out)).mono ?_; rintro e' w' ⟨rfl, hb⟩; have hk := sig_keep (by first | assumption | (simp; assumption)) w' hb; have n0 := Lib.hid (below_step (by first | exact HB2.out | exact pw_below_drewN HB2.out _) hb); clear HB2; have HB2 := n0; clear n0 hb))
  go_wp2
  go_ret
  exact ⟨rfl, HB2.out⟩
set_option maxHeartbeats 2000000 in
theorem verify_no (key : Int) (A : Option Addr) (c : Nat) (l : List Int) (e s : Int) (w : World) (hv : vfOk key e s = false) :
    Calls Tryd.prog 53 #[.int .i64 key, .slice A l.length c, .agg #[.int .i64 e, .int .i64 s]] w fun en w' => en = .returned (.bool false) ∧ Below w.heap.size w w' := by
  obtain ⟨mn, hmn⟩ : ∃ m, (if s < e then s else e) = m := ⟨_, rfl⟩
  obtain ⟨mx, hmx⟩ : ∃ m, (if e < s then s else e) = m := ⟨_, rfl⟩
  by_cases c1 : mn < 0
  · have t1 : decide (mn < 0) = true := decide_eq_true c1
    clear hv
    go_enter Tryd.func53, Tryd.ntmps53
    go_wp2_with fail
    go_ret
    exact ⟨rfl, below_alloc (Below.refl _ w) _⟩
  · have t1 : decide (mn < 0) = false := decide_eq_false c1
    by_cases c2 : 1073741789 ≤ mx
    · have t2 : decide (1073741789 ≤ mx) = true := decide_eq_true c2
      clear hv
      go_enter Tryd.func53, Tryd.ntmps53
      go_wp2_with fail
      go_ret
      exact ⟨rfl, below_alloc (Below.refl _ w) _⟩
    · have t2 : decide (1073741789 ≤ mx) = false := decide_eq_false c2
      have hk : validB key = false := by
        unfold vfOk at hv
        rw [decide_eq_true (p := 0 ≤ e) (by rw [← hmn] at c1; split at c1 <;> omega), decide_eq_true (p := 0 ≤ s) (by rw [← hmn] at c1; split at c1 <;> omega), decide_eq_true (p := e < 1073741789) (by rw [← hmx] at c2; split at c2 <;> omega), decide_eq_true (p := s < 1073741789) (by rw [← hmx] at c2; split at c2 <;> omega)] at hv
        simpa using hv
      have HK := Lib.hid hk
      clear hv hk
      go_enter Tryd.func53, Tryd.ntmps53
      go_wp2_with (go_at_call 38; refine (valid_any key _).mono ?_; rintro e' w' ⟨rfl, rfl⟩; rw [HK.out])
      go_ret
      exact ⟨rfl, below_alloc (Below.refl _ w) _⟩
end Go.Proofs.YtjbcfdgnafmbkaaDoor.Cod
namespace Go.Proofs.YtjbcfdgnafmbkaaDoor.PBig
open Go.RowKit Go.Proofs.YtjbcfdgnafmbkaaDoor Go.Proofs.YtjbcfdgnafmbkaaDoorW.PrintWords
def sign_Verify.f (a0 : Int) (l1 : List Int) (a2_0 a2_1 : Int) : Option Bool := if l1.length ≤ 1048576 then some (Cod.vfB a0 l1 a2_0 a2_1) else none
theorem sign_Verify.calls (a0 : Int) (A1 : Option Addr) (c1 : Nat) (l1 : List Int) (a2_0 a2_1 : Int) (r : Bool) (w : World) (hLd : Sha.Laid w) (hr1 : Kd.C (Kd.int .u8) w A1 l1.length l1) (hc1 : l1.length ≤ c1) (h : sign_Verify.f a0 l1 a2_0 a2_1 = some r) :
    Calls Tryd.prog 53 #[.int .i64 a0, .slice A1 l1.length c1, .agg #[.int .i64 a2_0, .int .i64 a2_1]] w fun e w' => e = .returned (.bool r) ∧ Below w.heap.size w w' := by
  unfold sign_Verify.f at h
  split at h
  case isFalse => cases h
  case isTrue hl =>
    cases h
    unfold Cod.vfB
    cases hv : Cod.vfOk a0 a2_0 a2_1 with
    | false => rw [Bool.false_and]; exact Cod.verify_no a0 A1 c1 l1 a2_0 a2_1 w hv
    | true => rw [Bool.true_and]; exact Cod.verify_yes a0 A1 c1 l1 a2_0 a2_1 w hr1 hl hLd hv
end Go.Proofs.YtjbcfdgnafmbkaaDoor.PBig
end
section
set_option linter.unusedVariables false
namespace Go.Proofs.YtjbcfdgnafmbkaaDoor.Cod
open Go.RowKit Go.Proofs.YtjbcfdgnafmbkaaDoor Go.Proofs.YtjbcfdgnafmbkaaDoorW.PrintWords Go.Proofs.YtjbcfdgnafmbkaaDoorW.PrintLast Go.Proofs.YtjbcfdgnafmbkaaDoorW.PrintMore Go.Proofs.YtjbcfdgnafmbkaaDoor.PBig Go.Proofs.YtjbcfdgnafmbkaaDoor.PCu
attribute [local go_sem] max2_int min2_int max_two min_two
def nonS : ByteArray := ⟨#[110, 111, 110, 99, 101]⟩
def one1 (h : Nat) : Int := if (h : Int) < 1 then 1 else h
def sgK (s : Int) (l : List Int) : Int := one1 (Sha.hashN (Sha.strL nonS) (encL (duo s l)))
def sgE (s : Int) (l : List Int) : Int := hsh (powI 4 (sgK s l)) (powI 4 s) l
def sgS (s : Int) (l : List Int) : Int := (sgK s l + sgE s l * s) % 1073741789
theorem hashN_lt (a b : List Nat) : Sha.hashN a b < 1073741789 := Nat.mod_lt _ (by decide)
theorem one1_lo (h : Nat) (hh : h < 1073741789) : 1 ≤ one1 h ∧ one1 h < 1073741789 := by unfold one1; split <;> omega
theorem prodQ {x y : Int} (h1 : 0 ≤ x) (h2 : x < 1073741789) (h3 : 0 ≤ y) (h4 : y < 1073741789) : 0 ≤ x * y ∧ x * y ≤ 1152921504606846976 := by
  refine ⟨Int.mul_nonneg h1 h3, ?_⟩
  have e1 : x * y ≤ 1073741789 * y := Int.mul_le_mul_of_nonneg_right (by omega) h3
  omega
theorem times_c (x y : Int) (w : World) (h1 : 0 ≤ x) (h2 : x < 1073741789) (h3 : 0 ≤ y) (h4 : y < 1073741789) :
    Calls Tryd.prog 92 #[.int .i64 x, .int .i64 y] w fun e w' => e = .returned (.int .i64 (x * y % 1073741789)) ∧ w = w' := by
  obtain ⟨p0, p1⟩ := prodQ h1 h2 h3 h4
  go_enter Tryd.func92, Tryd.ntmps92
  go_wp2_with fail
  go_ret
  refine ⟨?_, rfl⟩
  rfl
theorem plus_c (x y : Int) (w : World) (h1 : 0 ≤ x) (h2 : x < 1073741789) (h3 : 0 ≤ y) (h4 : y < 1073741789) :
    Calls Tryd.prog 91 #[.int .i64 x, .int .i64 y] w fun e w' => e = .returned (.int .i64 ((x + y) % 1073741789)) ∧ w = w' := by
  go_enter Tryd.func91, Tryd.ntmps91
  go_wp2_with fail
  go_ret
  refine ⟨?_, rfl⟩
  rfl
set_option maxHeartbeats 2000000 in
set_option maxRecDepth 100000 in
theorem sign_yes (s : Int) (A : Option Addr) (c : Nat) (l : List Int) (w : World) (hC : Kd.C (Kd.int .u8) w A l.length l) (hl : l.length ≤ 1048576) (hL : Sha.Laid w) (h1 : 1 ≤ s) (h2 : s < 1073741789) :
    Calls Tryd.prog 54 #[.int .i64 s, .slice A l.length c] w fun en w' => en = .returned (.tuple #[.agg #[.int .i64 (sgE s l), .int .i64 (sgS s l)], .int .i64 0]) ∧ Below w.heap.size w w' := by
  have HLd := Lib.hid hL
  have HD := Lib.hid (fun (W : World) (hb : Below w.heap.size w W) => list_duo s A c l W (by omega) (by omega) (Kd.C_below hC hb) hl)
  have HO0 := encL_duo s l (by omega) (by omega) hl
  have HN := Lib.hid (fun (v : Value) (B : Nat) (W : World) (hO : OwnB W B v (encL (duo s l))) (hL : Sha.Laid W) => hash_own nonS v (duo s l) B W hO HO0 (by decide) hL)
  have hEl : ∀ k : Int, okE (tri (powI 4 k) (powI 4 s) l) := fun k => by
    obtain ⟨k0, k1, _⟩ := validB_true (valid_pow valid4 k)
    obtain ⟨r0, r1, _⟩ := validB_true (valid_pow valid4 s)
    exact encL_tri _ _ l (by omega) (by omega) (by omega) (by omega) hl
  have hLi : ∀ (k : Int) (W : World), Below w.heap.size w W → _ := fun k W hb => list_tri (powI 4 k) (powI 4 s) A c l W (by have := validB_true (valid_pow valid4 k); omega) (by have := validB_true (valid_pow valid4 k); omega) (by have := validB_true (valid_pow valid4 s); omega) (by have := validB_true (valid_pow valid4 s); omega) (Kd.C_below hC hb) hl
  unfold sgS sgE sgK
  have hk0 := one1_lo _ (hashN_lt (Sha.strL nonS) (encL (duo s l)))
  generalize Sha.hashN (Sha.strL nonS) (encL (duo s l)) = H1 at HN hk0 ⊢
  obtain ⟨k, hk⟩ : ∃ k, one1 H1 = k := ⟨_, rfl⟩
  rw [hk] at hk0 ⊢
  unfold one1 at hk
  have HLI := Lib.hid (hLi k)
  have HOE := hEl k
  have HH := Lib.hid (fun (v : Value) (B : Nat) (W : World) (hO : OwnB W B v (encL (tri (powI 4 k) (powI 4 s) l))) (hL : Sha.Laid W) => hash_own sigS v (tri (powI 4 k) (powI 4 s) l) B W hO HOE (by decide) hL)
  have hh : hsh (powI 4 k) (powI 4 s) l = (Sha.hashN (Sha.strL sigS) (encL (tri (powI 4 k) (powI 4 s) l)) : Int) := rfl
  rw [hh]
  have hE := hashN_lt (Sha.strL sigS) (encL (tri (powI 4 k) (powI 4 s) l))
  generalize Sha.hashN (Sha.strL sigS) (encL (tri (powI 4 k) (powI 4 s) l)) = E at HH hE ⊢
  have HP1 := Lib.hid (fun W => power_c 4 k W valid4)
  have HP2 := Lib.hid (fun W => power_c 4 s W valid4)
  generalize powI 4 k = pk at *
  generalize powI 4 s = ps at *
  clear hh HOE hEl hLi HO0 hC hL
  unfold sigS at HH
  unfold nonS at HN
  have t1 : decide (s < 1) = false := decide_eq_false (by omega)
  have t2 : decide (1073741789 ≤ s) = false := decide_eq_false (by omega)
  have HB := Lib.hid (Below.refl w.heap.size w)
  go_enter Tryd.func54, Tryd.ntmps54
  go_upto_region 3 with fail
  generalize hW1 : w.alloc _ = W1
  have HB1 := Lib.hid (show Below w.heap.size w W1 by rw [← hW1]; exact below_alloc (Below.refl _ w) _)
  have BK1 := Lib.hid (show W1.heap[w.heap.size]? = some (.cells #[.int .i64 0, .int .i64 0] 73 (0, 0)) by rw [← hW1]; exact blk_new w _)
  clear hW1 HB
  have hlo : ∀ (W W2 : World), Below W.heap.size W W2 → W.heap[w.heap.size]? = some (.cells #[.int .i64 0, .int .i64 0] 73 (0, 0)) → W2.heap[w.heap.size]? = some (.cells #[.int .i64 0, .int .i64 0] 73 (0, 0)) := fun W W2 hb h => blk_below h hb
  go_wp2_with fail
  refine (HD.out W1 HB1.out).mono ?_
  rintro e1 w2 ⟨v2, rfl, hO2, hb2⟩
  have HO2 := Lib.hid hO2
  have HB2 := Lib.hid (below_step HB1.out hb2)
  have BK2 := Lib.hid (hlo _ _ hb2 BK1.out)
  clear hO2 hb2 HB1 BK1 HD
  go_wp2_with fail
  refine (HN.out v2 _ w2 HO2.out (Laid.below HLd.out HB2.out)).mono ?_
  rintro e1 w3 ⟨rfl, hb3⟩
  have HB3 := Lib.hid (below_step HB2.out hb3)
  have BK3 := Lib.hid (hlo _ _ hb3 BK2.out)
  clear hb3 HB2 BK2 HO2 HN
  go_wp2_with fail
  refine (HP1.out w3).mono ?_
  rintro e1 w4 ⟨rfl, hb3⟩
  have HB4 := Lib.hid (below_step HB3.out hb3)
  have BK4 := Lib.hid (hlo _ _ hb3 BK3.out)
  clear hb3 HB3 BK3 HP1
  go_wp2_with fail
  refine (HP2.out w4).mono ?_
  rintro e1 w5 ⟨rfl, hb3⟩
  have HB5 := Lib.hid (below_step HB4.out hb3)
  have BK5 := Lib.hid (hlo _ _ hb3 BK4.out)
  clear hb3 HB4 BK4 HP2
  go_wp2_with fail
  refine (HLI.out w5 HB5.out).mono ?_
  rintro e1 w6 ⟨v6, rfl, hO2, hb3⟩
  have HO6 := Lib.hid hO2
  have HB6 := Lib.hid (below_step HB5.out hb3)
  have BK6 := Lib.hid (hlo _ _ hb3 BK5.out)
  clear hb3 HB5 BK5 HLI hO2
  go_wp2_with fail
  refine (HH.out v6 _ w6 HO6.out (Laid.below HLd.out HB6.out)).mono ?_
  rintro e1 w7 ⟨rfl, hb3⟩
  have HB7 := Lib.hid (below_step HB6.out hb3)
  have BK7 := Lib.hid (hlo _ _ hb3 BK6.out)
  clear hb3 HB6 BK6 HO6 HH
  have hs0 : w7.cell? ⟨w.heap.size, 0, none⟩ = some (.int .i64 0) := (blk_cell BK7.out 0).trans rfl
  have hf0 := blk_frozen BK7.out 0
  have hs1 : w7.cell? ⟨w.heap.size, 1, none⟩ = some (.int .i64 0) := (blk_cell BK7.out 1).trans rfl
  have hf1 := blk_frozen BK7.out 1
  go_wp2_with fail
  refine (times_c E s _ (by omega) (by omega) (by omega) (by omega)).mono ?_
  rintro e1 w8 ⟨rfl, rfl⟩
  go_wp2_with fail
  refine (plus_c k (E * s % 1073741789) _ (by omega) (by omega) (Int.emod_nonneg _ (by decide)) (Int.emod_lt_of_pos _ (by decide))).mono ?_
  rintro e1 w8 ⟨rfl, rfl⟩
  go_wp2_with fail
  refine bodyPost_ret (results_ct rfl _ _ w.heap.size 73 #[.int .i64 E, .int .i64 ((k + E * s) % 1073741789)] (0, 0) _ rfl (blk_set (blk_set (blk_set (blk_set BK7.out 0 _) 1 _) 0 _) 1 _) Tryd.underlying73 rfl (by kernel_rfl)) rfl ?_
  exact ⟨rfl, below_set (below_set (below_set (below_set HB7.out (Nat.le_refl _)) (Nat.le_refl _)) (Nat.le_refl _)) (Nat.le_refl _)⟩
set_option maxHeartbeats 2000000 in
theorem sign_no (s : Int) (v : Value) (w : World) (h : ¬ (1 ≤ s ∧ s < 1073741789)) :
    Calls Tryd.prog 54 #[.int .i64 s, v] w fun en w' => en = .returned (.tuple #[.agg #[.int .i64 0, .int .i64 0], .int .i64 110]) ∧ Below w.heap.size w w' := by
  by_cases c1 : s < 1
  · have t1 : decide (s < 1) = true := decide_eq_true c1
    go_enter Tryd.func54, Tryd.ntmps54
    go_wp2_with fail
    refine bodyPost_ret (results_ct rfl _ _ w.heap.size 73 #[.int .i64 0, .int .i64 0] (0, 0) _ rfl (blk_new w _) Tryd.underlying73 rfl (by kernel_rfl)) rfl ?_
    exact ⟨rfl, below_alloc (Below.refl _ w) _⟩
  · have t1 : decide (s < 1) = false := decide_eq_false c1
    have t2 : decide (1073741789 ≤ s) = true := decide_eq_true (by omega)
    go_enter Tryd.func54, Tryd.ntmps54
    go_wp2_with fail
    refine bodyPost_ret (results_ct rfl _ _ w.heap.size 73 #[.int .i64 0, .int .i64 0] (0, 0) _ rfl (blk_new w _) Tryd.underlying73 rfl (by kernel_rfl)) rfl ?_
    exact ⟨rfl, below_alloc (Below.refl _ w) _⟩
end Go.Proofs.YtjbcfdgnafmbkaaDoor.Cod
namespace Go.Proofs.YtjbcfdgnafmbkaaDoor.PBig
open Go.RowKit Go.Proofs.YtjbcfdgnafmbkaaDoor Go.Proofs.YtjbcfdgnafmbkaaDoorW.PrintWords
def sign_Sign.f (a0 : Int) (l1 : List Int) : Option (Int × Int × Int) := if l1.length ≤ 1048576 then some (if 1 ≤ a0 ∧ a0 < 1073741789 then (Cod.sgE a0 l1, Cod.sgS a0 l1, 0) else (0, 0, 110)) else none
theorem sign_Sign.calls (a0 : Int) (A1 : Option Addr) (c1 : Nat) (l1 : List Int) (r1 r2 r3 : Int) (w : World) (hLd : Sha.Laid w) (hr1 : Kd.C (Kd.int .u8) w A1 l1.length l1) (hc1 : l1.length ≤ c1) (h : sign_Sign.f a0 l1 = some (r1, r2, r3)) :
    Calls Tryd.prog 54 #[.int .i64 a0, .slice A1 l1.length c1] w fun e w' => e = .returned (.tuple #[.agg #[.int .i64 r1, .int .i64 r2], .int .i64 r3]) ∧ Below w.heap.size w w' := by
  unfold sign_Sign.f at h
  split at h
  case isFalse => cases h
  case isTrue hl =>
    have h := Option.some.inj h
    split at h
    case isTrue hs => cases h; exact Cod.sign_yes a0 A1 c1 l1 w hr1 hl hLd hs.1 hs.2
    case isFalse hs => cases h; exact Cod.sign_no a0 _ w hs
end Go.Proofs.YtjbcfdgnafmbkaaDoor.PBig
end
section
namespace Go.Proofs.YtjbcfdgnafmbkaaDoor.PBig
open Go.RowKit Go.Proofs.YtjbcfdgnafmbkaaDoorW.PrintWords Go.Proofs.YtjbcfdgnafmbkaaDoorW.PrintLast Go.Proofs.YtjbcfdgnafmbkaaDoorW.PrintMore
attribute [local go_sem] max2_int min2_int max_two min_two max_three min_three max_four min_four
set_option linter.unusedVariables false
set_option linter.unusedSimpArgs false
def devices_Current.f (l0 : List (S65)) (a1 : Int) (a2 : Int) (a3 : Int) : Option (Int × Int × Bool × Int) := (devices_current.f l0 a1 a2 a3).bind fun bt101 => (if bt101.2.2.2.2.2.2.2 = 0 then (if bt101.2.2.2.2.2.2.1 = true then (some (bt101.1, bt101.2.2.2.2.1, true, 0)) else (some (0, 0, false, bt101.2.2.2.2.2.2.2))) else (some (0, 0, false, bt101.2.2.2.2.2.2.2)))
set_option maxHeartbeats 8000000 in
set_option maxRecDepth 100000 in
theorem devices_Current.calls (A0 : Option Addr) (c0 : Nat) (l0 : List (S65)) (a1 : Int) (a2 : Int) (a3 : Int) (r1 : Int) (r2 : Int) (r3 : Bool) (r4 : Int) (w : World) (hr0 : Kd.C k65 w A0 l0.length l0) (hc0 : l0.length ≤ c0) (h : devices_Current.f l0 a1 a2 a3 = some (r1, r2, r3, r4)) :
    Calls Tryd.prog 47 #[.slice A0 l0.length c0, .int .i64 a1, .int .i64 a2, .int .i64 a3] w fun e w' => e = .returned (.tuple #[.int .i64 r1, .int .i64 r2, .bool r3, .int .i64 r4]) ∧ Below w.heap.size w w' := by
  have hu65 := Tryd.underlying65
  have HR0 := Aside0.mk hr0
  have HC0 := Aside0.mk hc0
  clear hr0 hc0
  have HB := Aside0.mk (Below.refl w.heap.size w)
  have H : ((devices_current.f l0 a1 a2 a3).bind fun bt101 => (if bt101.2.2.2.2.2.2.2 = 0 then (if bt101.2.2.2.2.2.2.1 = true then (some (bt101.1, bt101.2.2.2.2.1, true, 0)) else (some (0, 0, false, bt101.2.2.2.2.2.2.2))) else (some (0, 0, false, bt101.2.2.2.2.2.2.2)))) = some (r1, r2, r3, r4) := h
  clear h
  replace H := Option.bind_eq_some_iff.mp H
  obtain ⟨⟨t101, t102, t103, t104, t105, t106, t107, t108⟩, A50, H⟩ := H
  replace H : (if t108 = 0 then (if t107 = true then (some (t101, t105, true, 0)) else (some (0, 0, false, t108))) else (some (0, 0, false, t108))) = some (r1, r2, r3, r4) := H
  have A5 := Aside0.mk A50
  clear A50
  by_cases c6 : t108 = 0
  · rw [if_pos c6] at H
    have c6b0 : (t108 == 0) = true := beq_iff_eq.mpr c6
    have c6b1 : (t108 != 0) = false := bne_eq_false_iff_eq.mpr c6
    clear c6
    by_cases c7 : t107 = true
    · subst c7
      have H1 : (some (t101, t105, true, 0)) = some (r1, r2, r3, r4) := by rw [if_pos rfl] at H; exact H
      clear H
      have H := H1
      clear H1
      simp only [Option.some.injEq, Prod.mk.injEq] at H
      obtain ⟨rfl, rfl, rfl, rfl⟩ := H
      go_enter Tryd.func47, Tryd.ntmps47
      go_wp2_with (first | (go_at_call 84; (with_reducible refine (devices_current.calls _ _ l0 a1 a2 a3 t101 t102 t103 t104 t105 t106 true t108 _ ?side1 ?side2 A5.out).mono ?_); (case side1 => repeat (first | exact HR0.out | (with_reducible refine Kd.C_alloc ?_ _) | (with_reducible refine Kd.C_drewN ?_ _) | (with_reducible refine Kd.C_drew ?_))); (case side2 => exact HC0.out); rintro e w8 ⟨rfl, hb⟩; have n0_ := Aside0.mk (below_step (by repeat (first | (with_reducible first | exact HB.out | apply below_alloc | apply pw_below_drewN | apply below_drew1) | exact HB.out)) hb); clear HB; have HB := n0_; clear n0_; (try clear hb); (try clear hb2); (try clear hk); (try clear hi)) | ((with_reducible refine gate_dst (N := 12) rfl ?_); refine box_event ?hg (N := 12) ?hd (cs := #[.int .i64 0, .int .i64 0, .int .i64 0, .int .i64 0, .int .i64 0, .bool false]) (t := 65) ?hr ?_; (case hd => rfl); (case hg => rfl); (case hr => first | (go_simp; done) | (go_simp; rfl)); intro gb109 hg w9 hbox hb; have n0_ := Aside0.mk (below_step (by repeat (first | (with_reducible first | exact HB.out | apply below_alloc | apply pw_below_drewN | apply below_drew1) | exact HB.out)) hb); have n1_ := Aside0.mk (hbox); have n2_ := Aside0.mk ((by rw [hg]; exact (below_size (by repeat (first | (with_reducible first | exact HB.out | apply below_alloc | apply pw_below_drewN | apply below_drew1) | exact HB.out))) : w.heap.size ≤ gb109)); have n3_ := Aside0.mk ((by rw [hg]; exact (below_size (by repeat (first | (with_reducible first | exact HB.out | apply below_alloc | apply pw_below_drewN | apply below_drew1) | exact HB.out))) : w.heap.size ≤ gb109)); clear HB; have HB := n0_; have BK109 := n1_; have GW109 := n2_; have GE109 := n3_; clear n0_ n1_ n2_ n3_; clear hb hbox hg; have hcz10_0 : w9.cell? ⟨gb109, 0, none⟩ = some (.int .i64 0) := (blk_cell BK109.out 0).trans rfl; have hcz10_1 : w9.cell? ⟨gb109, 1, none⟩ = some (.int .i64 0) := (blk_cell BK109.out 1).trans rfl; have hcz10_2 : w9.cell? ⟨gb109, 2, none⟩ = some (.int .i64 0) := (blk_cell BK109.out 2).trans rfl; have hcz10_3 : w9.cell? ⟨gb109, 3, none⟩ = some (.int .i64 0) := (blk_cell BK109.out 3).trans rfl; have hcz10_4 : w9.cell? ⟨gb109, 4, none⟩ = some (.int .i64 0) := (blk_cell BK109.out 4).trans rfl; have hcz10_5 : w9.cell? ⟨gb109, 5, none⟩ = some (.bool false) := (blk_cell BK109.out 5).trans rfl; have hfz10_0 := blk_frozen BK109.out 0; have hfz10_1 := blk_frozen BK109.out 1; have hfz10_2 := blk_frozen BK109.out 2; have hfz10_3 := blk_frozen BK109.out 3; have hfz10_4 := blk_frozen BK109.out 4; have hfz10_5 := blk_frozen BK109.out 5))
      repeat (go_quiet (first | (go_at_call 84; (with_reducible refine (devices_current.calls _ _ l0 a1 a2 a3 t101 t102 t103 t104 t105 t106 true t108 _ ?side1 ?side2 A5.out).mono ?_); (case side1 => repeat (first | exact HR0.out | (with_reducible refine Kd.C_alloc ?_ _) | (with_reducible refine Kd.C_drewN ?_ _) | (with_reducible refine Kd.C_drew ?_))); (case side2 => exact HC0.out); rintro e w8 ⟨rfl, hb⟩; have n0_ := Aside0.mk (below_step (by repeat (first | (with_reducible first | exact HB.out | apply below_alloc | apply pw_below_drewN | apply below_drew1) | exact HB.out)) hb); clear HB; have HB := n0_; clear n0_; (try clear hb); (try clear hb2); (try clear hk); (try clear hi)) | ((with_reducible refine gate_dst (N := 12) rfl ?_); refine box_event ?hg (N := 12) ?hd (cs := #[.int .i64 0, .int .i64 0, .int .i64 0, .int .i64 0, .int .i64 0, .bool false]) (t := 65) ?hr ?_; (case hd => rfl); (case hg => rfl); (case hr => first | (go_simp; done) | (go_simp; rfl)); intro gb109 hg w9 hbox hb; have n0_ := Aside0.mk (below_step (by repeat (first | (with_reducible first | exact HB.out | apply below_alloc | apply pw_below_drewN | apply below_drew1) | exact HB.out)) hb); have n1_ := Aside0.mk (hbox); have n2_ := Aside0.mk ((by rw [hg]; exact (below_size (by repeat (first | (with_reducible first | exact HB.out | apply below_alloc | apply pw_below_drewN | apply below_drew1) | exact HB.out))) : w.heap.size ≤ gb109)); have n3_ := Aside0.mk ((by rw [hg]; exact (below_size (by repeat (first | (with_reducible first | exact HB.out | apply below_alloc | apply pw_below_drewN | apply below_drew1) | exact HB.out))) : w.heap.size ≤ gb109)); clear HB; have HB := n0_; have BK109 := n1_; have GW109 := n2_; have GE109 := n3_; clear n0_ n1_ n2_ n3_; clear hb hbox hg; have hcz10_0 : w9.cell? ⟨gb109, 0, none⟩ = some (.int .i64 0) := (blk_cell BK109.out 0).trans rfl; have hcz10_1 : w9.cell? ⟨gb109, 1, none⟩ = some (.int .i64 0) := (blk_cell BK109.out 1).trans rfl; have hcz10_2 : w9.cell? ⟨gb109, 2, none⟩ = some (.int .i64 0) := (blk_cell BK109.out 2).trans rfl; have hcz10_3 : w9.cell? ⟨gb109, 3, none⟩ = some (.int .i64 0) := (blk_cell BK109.out 3).trans rfl; have hcz10_4 : w9.cell? ⟨gb109, 4, none⟩ = some (.int .i64 0) := (blk_cell BK109.out 4).trans rfl; have hcz10_5 : w9.cell? ⟨gb109, 5, none⟩ = some (.bool false) := (blk_cell BK109.out 5).trans rfl; have hfz10_0 := blk_frozen BK109.out 0; have hfz10_1 := blk_frozen BK109.out 1; have hfz10_2 := blk_frozen BK109.out 2; have hfz10_3 := blk_frozen BK109.out 3; have hfz10_4 := blk_frozen BK109.out 4; have hfz10_5 := blk_frozen BK109.out 5)); try go_wp2_with (first | (go_at_call 84; (with_reducible refine (devices_current.calls _ _ l0 a1 a2 a3 t101 t102 t103 t104 t105 t106 true t108 _ ?side1 ?side2 A5.out).mono ?_); (case side1 => repeat (first | exact HR0.out | (with_reducible refine Kd.C_alloc ?_ _) | (with_reducible refine Kd.C_drewN ?_ _) | (with_reducible refine Kd.C_drew ?_))); (case side2 => exact HC0.out); rintro e w8 ⟨rfl, hb⟩; have n0_ := Aside0.mk (below_step (by repeat (first | (with_reducible first | exact HB.out | apply below_alloc | apply pw_below_drewN | apply below_drew1) | exact HB.out)) hb); clear HB; have HB := n0_; clear n0_; (try clear hb); (try clear hb2); (try clear hk); (try clear hi)) | ((with_reducible refine gate_dst (N := 12) rfl ?_); refine box_event ?hg (N := 12) ?hd (cs := #[.int .i64 0, .int .i64 0, .int .i64 0, .int .i64 0, .int .i64 0, .bool false]) (t := 65) ?hr ?_; (case hd => rfl); (case hg => rfl); (case hr => first | (go_simp; done) | (go_simp; rfl)); intro gb109 hg w9 hbox hb; have n0_ := Aside0.mk (below_step (by repeat (first | (with_reducible first | exact HB.out | apply below_alloc | apply pw_below_drewN | apply below_drew1) | exact HB.out)) hb); have n1_ := Aside0.mk (hbox); have n2_ := Aside0.mk ((by rw [hg]; exact (below_size (by repeat (first | (with_reducible first | exact HB.out | apply below_alloc | apply pw_below_drewN | apply below_drew1) | exact HB.out))) : w.heap.size ≤ gb109)); have n3_ := Aside0.mk ((by rw [hg]; exact (below_size (by repeat (first | (with_reducible first | exact HB.out | apply below_alloc | apply pw_below_drewN | apply below_drew1) | exact HB.out))) : w.heap.size ≤ gb109)); clear HB; have HB := n0_; have BK109 := n1_; have GW109 := n2_; have GE109 := n3_; clear n0_ n1_ n2_ n3_; clear hb hbox hg; have hcz10_0 : w9.cell? ⟨gb109, 0, none⟩ = some (.int .i64 0) := (blk_cell BK109.out 0).trans rfl; have hcz10_1 : w9.cell? ⟨gb109, 1, none⟩ = some (.int .i64 0) := (blk_cell BK109.out 1).trans rfl; have hcz10_2 : w9.cell? ⟨gb109, 2, none⟩ = some (.int .i64 0) := (blk_cell BK109.out 2).trans rfl; have hcz10_3 : w9.cell? ⟨gb109, 3, none⟩ = some (.int .i64 0) := (blk_cell BK109.out 3).trans rfl; have hcz10_4 : w9.cell? ⟨gb109, 4, none⟩ = some (.int .i64 0) := (blk_cell BK109.out 4).trans rfl; have hcz10_5 : w9.cell? ⟨gb109, 5, none⟩ = some (.bool false) := (blk_cell BK109.out 5).trans rfl; have hfz10_0 := blk_frozen BK109.out 0; have hfz10_1 := blk_frozen BK109.out 1; have hfz10_2 := blk_frozen BK109.out 2; have hfz10_3 := blk_frozen BK109.out 3; have hfz10_4 := blk_frozen BK109.out 4; have hfz10_5 := blk_frozen BK109.out 5)))
      refine bodyPost_ret (results_list (rs := [.tmp 8, .tmp 9, .tmp 10, .tmp 11]) rfl (by simp) (.tmp (.tmp (.tmp (.tmp .nil))))) rfl ?_
      exact ⟨by first | rfl | (simp [errW_none, errW_some] <;> rfl) | (simp [*, errW_none, errW_some] <;> rfl), by repeat (first | (with_reducible first | exact HB.out | apply below_alloc | apply pw_below_drewN | apply below_drew1 | refine below_set ?_ GE109.out) | exact HB.out)⟩
    · replace c7 := Bool.eq_false_iff.mpr c7
      subst c7
      have H1 : (some (0, 0, false, t108)) = some (r1, r2, r3, r4) := by rw [if_neg (show ¬ (false = true) by decide)] at H; exact H
      clear H
      have H := H1
      clear H1
      simp only [Option.some.injEq, Prod.mk.injEq] at H
      obtain ⟨rfl, rfl, rfl, rfl⟩ := H
      go_enter Tryd.func47, Tryd.ntmps47
      go_wp2_with (first | (go_at_call 84; (with_reducible refine (devices_current.calls _ _ l0 a1 a2 a3 t101 t102 t103 t104 t105 t106 false t108 _ ?side1 ?side2 A5.out).mono ?_); (case side1 => repeat (first | exact HR0.out | (with_reducible refine Kd.C_alloc ?_ _) | (with_reducible refine Kd.C_drewN ?_ _) | (with_reducible refine Kd.C_drew ?_))); (case side2 => exact HC0.out); rintro e w11 ⟨rfl, hb⟩; have n0_ := Aside0.mk (below_step (by repeat (first | (with_reducible first | exact HB.out | apply below_alloc | apply pw_below_drewN | apply below_drew1) | exact HB.out)) hb); clear HB; have HB := n0_; clear n0_; (try clear hb); (try clear hb2); (try clear hk); (try clear hi)) | ((with_reducible refine gate_dst (N := 12) rfl ?_); refine box_event ?hg (N := 12) ?hd (cs := #[.int .i64 0, .int .i64 0, .int .i64 0, .int .i64 0, .int .i64 0, .bool false]) (t := 65) ?hr ?_; (case hd => rfl); (case hg => rfl); (case hr => first | (go_simp; done) | (go_simp; rfl)); intro gb109 hg w12 hbox hb; have n0_ := Aside0.mk (below_step (by repeat (first | (with_reducible first | exact HB.out | apply below_alloc | apply pw_below_drewN | apply below_drew1) | exact HB.out)) hb); have n1_ := Aside0.mk (hbox); have n2_ := Aside0.mk ((by rw [hg]; exact (below_size (by repeat (first | (with_reducible first | exact HB.out | apply below_alloc | apply pw_below_drewN | apply below_drew1) | exact HB.out))) : w.heap.size ≤ gb109)); have n3_ := Aside0.mk ((by rw [hg]; exact (below_size (by repeat (first | (with_reducible first | exact HB.out | apply below_alloc | apply pw_below_drewN | apply below_drew1) | exact HB.out))) : w.heap.size ≤ gb109)); clear HB; have HB := n0_; have BK109 := n1_; have GW109 := n2_; have GE109 := n3_; clear n0_ n1_ n2_ n3_; clear hb hbox hg; have hcz13_0 : w12.cell? ⟨gb109, 0, none⟩ = some (.int .i64 0) := (blk_cell BK109.out 0).trans rfl; have hcz13_1 : w12.cell? ⟨gb109, 1, none⟩ = some (.int .i64 0) := (blk_cell BK109.out 1).trans rfl; have hcz13_2 : w12.cell? ⟨gb109, 2, none⟩ = some (.int .i64 0) := (blk_cell BK109.out 2).trans rfl; have hcz13_3 : w12.cell? ⟨gb109, 3, none⟩ = some (.int .i64 0) := (blk_cell BK109.out 3).trans rfl; have hcz13_4 : w12.cell? ⟨gb109, 4, none⟩ = some (.int .i64 0) := (blk_cell BK109.out 4).trans rfl; have hcz13_5 : w12.cell? ⟨gb109, 5, none⟩ = some (.bool false) := (blk_cell BK109.out 5).trans rfl; have hfz13_0 := blk_frozen BK109.out 0; have hfz13_1 := blk_frozen BK109.out 1; have hfz13_2 := blk_frozen BK109.out 2; have hfz13_3 := blk_frozen BK109.out 3; have hfz13_4 := blk_frozen BK109.out 4; have hfz13_5 := blk_frozen BK109.out 5))
      repeat (go_quiet (first | (go_at_call 84; (with_reducible refine (devices_current.calls _ _ l0 a1 a2 a3 t101 t102 t103 t104 t105 t106 false t108 _ ?side1 ?side2 A5.out).mono ?_); (case side1 => repeat (first | exact HR0.out | (with_reducible refine Kd.C_alloc ?_ _) | (with_reducible refine Kd.C_drewN ?_ _) | (with_reducible refine Kd.C_drew ?_))); (case side2 => exact HC0.out); rintro e w11 ⟨rfl, hb⟩; have n0_ := Aside0.mk (below_step (by repeat (first | (with_reducible first | exact HB.out | apply below_alloc | apply pw_below_drewN | apply below_drew1) | exact HB.out)) hb); clear HB; have HB := n0_; clear n0_; (try clear hb); (try clear hb2); (try clear hk); (try clear hi)) | ((with_reducible refine gate_dst (N := 12) rfl ?_); refine box_event ?hg (N := 12) ?hd (cs := #[.int .i64 0, .int .i64 0, .int .i64 0, .int .i64 0, .int .i64 0, .bool false]) (t := 65) ?hr ?_; (case hd => rfl); (case hg => rfl); (case hr => first | (go_simp; done) | (go_simp; rfl)); intro gb109 hg w12 hbox hb; have n0_ := Aside0.mk (below_step (by repeat (first | (with_reducible first | exact HB.out | apply below_alloc | apply pw_below_drewN | apply below_drew1) | exact HB.out)) hb); have n1_ := Aside0.mk (hbox); have n2_ := Aside0.mk ((by rw [hg]; exact (below_size (by repeat (first | (with_reducible first | exact HB.out | apply below_alloc | apply pw_below_drewN | apply below_drew1) | exact HB.out))) : w.heap.size ≤ gb109)); have n3_ := Aside0.mk ((by rw [hg]; exact (below_size (by repeat (first | (with_reducible first | exact HB.out | apply below_alloc | apply pw_below_drewN | apply below_drew1) | exact HB.out))) : w.heap.size ≤ gb109)); clear HB; have HB := n0_; have BK109 := n1_; have GW109 := n2_; have GE109 := n3_; clear n0_ n1_ n2_ n3_; clear hb hbox hg; have hcz13_0 : w12.cell? ⟨gb109, 0, none⟩ = some (.int .i64 0) := (blk_cell BK109.out 0).trans rfl; have hcz13_1 : w12.cell? ⟨gb109, 1, none⟩ = some (.int .i64 0) := (blk_cell BK109.out 1).trans rfl; have hcz13_2 : w12.cell? ⟨gb109, 2, none⟩ = some (.int .i64 0) := (blk_cell BK109.out 2).trans rfl; have hcz13_3 : w12.cell? ⟨gb109, 3, none⟩ = some (.int .i64 0) := (blk_cell BK109.out 3).trans rfl; have hcz13_4 : w12.cell? ⟨gb109, 4, none⟩ = some (.int .i64 0) := (blk_cell BK109.out 4).trans rfl; have hcz13_5 : w12.cell? ⟨gb109, 5, none⟩ = some (.bool false) := (blk_cell BK109.out 5).trans rfl; have hfz13_0 := blk_frozen BK109.out 0; have hfz13_1 := blk_frozen BK109.out 1; have hfz13_2 := blk_frozen BK109.out 2; have hfz13_3 := blk_frozen BK109.out 3; have hfz13_4 := blk_frozen BK109.out 4; have hfz13_5 := blk_frozen BK109.out 5)); try go_wp2_with (first | (go_at_call 84; (with_reducible refine (devices_current.calls _ _ l0 a1 a2 a3 t101 t102 t103 t104 t105 t106 false t108 _ ?side1 ?side2 A5.out).mono ?_); (case side1 => repeat (first | exact HR0.out | (with_reducible refine Kd.C_alloc ?_ _) | (with_reducible refine Kd.C_drewN ?_ _) | (with_reducible refine Kd.C_drew ?_))); (case side2 => exact HC0.out); rintro e w11 ⟨rfl, hb⟩; have n0_ := Aside0.mk (below_step (by repeat (first | (with_reducible first | exact HB.out | apply below_alloc | apply pw_below_drewN | apply below_drew1) | exact HB.out)) hb); clear HB; have HB := n0_; clear n0_; (try clear hb); (try clear hb2); (try clear hk); (try clear hi)) | ((with_reducible refine gate_dst (N := 12) rfl ?_); refine box_event ?hg (N := 12) ?hd (cs := #[.int .i64 0, .int .i64 0, .int .i64 0, .int .i64 0, .int .i64 0, .bool false]) (t := 65) ?hr ?_; (case hd => rfl); (case hg => rfl); (case hr => first | (go_simp; done) | (go_simp; rfl)); intro gb109 hg w12 hbox hb; have n0_ := Aside0.mk (below_step (by repeat (first | (with_reducible first | exact HB.out | apply below_alloc | apply pw_below_drewN | apply below_drew1) | exact HB.out)) hb); have n1_ := Aside0.mk (hbox); have n2_ := Aside0.mk ((by rw [hg]; exact (below_size (by repeat (first | (with_reducible first | exact HB.out | apply below_alloc | apply pw_below_drewN | apply below_drew1) | exact HB.out))) : w.heap.size ≤ gb109)); have n3_ := Aside0.mk ((by rw [hg]; exact (below_size (by repeat (first | (with_reducible first | exact HB.out | apply below_alloc | apply pw_below_drewN | apply below_drew1) | exact HB.out))) : w.heap.size ≤ gb109)); clear HB; have HB := n0_; have BK109 := n1_; have GW109 := n2_; have GE109 := n3_; clear n0_ n1_ n2_ n3_; clear hb hbox hg; have hcz13_0 : w12.cell? ⟨gb109, 0, none⟩ = some (.int .i64 0) := (blk_cell BK109.out 0).trans rfl; have hcz13_1 : w12.cell? ⟨gb109, 1, none⟩ = some (.int .i64 0) := (blk_cell BK109.out 1).trans rfl; have hcz13_2 : w12.cell? ⟨gb109, 2, none⟩ = some (.int .i64 0) := (blk_cell BK109.out 2).trans rfl; have hcz13_3 : w12.cell? ⟨gb109, 3, none⟩ = some (.int .i64 0) := (blk_cell BK109.out 3).trans rfl; have hcz13_4 : w12.cell? ⟨gb109, 4, none⟩ = some (.int .i64 0) := (blk_cell BK109.out 4).trans rfl; have hcz13_5 : w12.cell? ⟨gb109, 5, none⟩ = some (.bool false) := (blk_cell BK109.out 5).trans rfl; have hfz13_0 := blk_frozen BK109.out 0; have hfz13_1 := blk_frozen BK109.out 1; have hfz13_2 := blk_frozen BK109.out 2; have hfz13_3 := blk_frozen BK109.out 3; have hfz13_4 := blk_frozen BK109.out 4; have hfz13_5 := blk_frozen BK109.out 5)))
      refine bodyPost_ret (results_list (rs := [.tmp 8, .tmp 9, .tmp 10, .tmp 11]) rfl (by simp) (.tmp (.tmp (.tmp (.tmp .nil))))) rfl ?_
      exact ⟨by first | rfl | (simp [errW_none, errW_some] <;> rfl) | (simp [*, errW_none, errW_some] <;> rfl), by repeat (first | (with_reducible first | exact HB.out | apply below_alloc | apply pw_below_drewN | apply below_drew1 | refine below_set ?_ GE109.out) | exact HB.out)⟩
  · rw [if_neg c6] at H
    have c6b0 : (t108 == 0) = false := beq_eq_false_iff_ne.mpr c6
    have c6b1 : (t108 != 0) = true := bne_iff_ne.mpr c6
    simp only [Option.some.injEq, Prod.mk.injEq] at H
    obtain ⟨rfl, rfl, rfl, rfl⟩ := H
    go_enter Tryd.func47, Tryd.ntmps47
    go_wp2_with (first | (go_at_call 84; (with_reducible refine (devices_current.calls _ _ l0 a1 a2 a3 t101 t102 t103 t104 t105 t106 t107 t108 _ ?side1 ?side2 A5.out).mono ?_); (case side1 => repeat (first | exact HR0.out | (with_reducible refine Kd.C_alloc ?_ _) | (with_reducible refine Kd.C_drewN ?_ _) | (with_reducible refine Kd.C_drew ?_))); (case side2 => exact HC0.out); rintro e w14 ⟨rfl, hb⟩; have n0_ := Aside0.mk (below_step (by repeat (first | (with_reducible first | exact HB.out | apply below_alloc | apply pw_below_drewN | apply below_drew1) | exact HB.out)) hb); clear HB; have HB := n0_; clear n0_; (try clear hb); (try clear hb2); (try clear hk); (try clear hi)) | ((with_reducible refine gate_dst (N := 12) rfl ?_); refine box_event ?hg (N := 12) ?hd (cs := #[.int .i64 0, .int .i64 0, .int .i64 0, .int .i64 0, .int .i64 0, .bool false]) (t := 65) ?hr ?_; (case hd => rfl); (case hg => rfl); (case hr => first | (go_simp; done) | (go_simp; rfl)); intro gb109 hg w15 hbox hb; have n0_ := Aside0.mk (below_step (by repeat (first | (with_reducible first | exact HB.out | apply below_alloc | apply pw_below_drewN | apply below_drew1) | exact HB.out)) hb); have n1_ := Aside0.mk (hbox); have n2_ := Aside0.mk ((by rw [hg]; exact (below_size (by repeat (first | (with_reducible first | exact HB.out | apply below_alloc | apply pw_below_drewN | apply below_drew1) | exact HB.out))) : w.heap.size ≤ gb109)); have n3_ := Aside0.mk ((by rw [hg]; exact (below_size (by repeat (first | (with_reducible first | exact HB.out | apply below_alloc | apply pw_below_drewN | apply below_drew1) | exact HB.out))) : w.heap.size ≤ gb109)); clear HB; have HB := n0_; have BK109 := n1_; have GW109 := n2_; have GE109 := n3_; clear n0_ n1_ n2_ n3_; clear hb hbox hg; have hcz16_0 : w15.cell? ⟨gb109, 0, none⟩ = some (.int .i64 0) := (blk_cell BK109.out 0).trans rfl; have hcz16_1 : w15.cell? ⟨gb109, 1, none⟩ = some (.int .i64 0) := (blk_cell BK109.out 1).trans rfl; have hcz16_2 : w15.cell? ⟨gb109, 2, none⟩ = some (.int .i64 0) := (blk_cell BK109.out 2).trans rfl; have hcz16_3 : w15.cell? ⟨gb109, 3, none⟩ = some (.int .i64 0) := (blk_cell BK109.out 3).trans rfl; have hcz16_4 : w15.cell? ⟨gb109, 4, none⟩ = some (.int .i64 0) := (blk_cell BK109.out 4).trans rfl; have hcz16_5 : w15.cell? ⟨gb109, 5, none⟩ = some (.bool false) := (blk_cell BK109.out 5).trans rfl; have hfz16_0 := blk_frozen BK109.out 0; have hfz16_1 := blk_frozen BK109.out 1; have hfz16_2 := blk_frozen BK109.out 2; have hfz16_3 := blk_frozen BK109.out 3; have hfz16_4 := blk_frozen BK109.out 4; have hfz16_5 := blk_frozen BK109.out 5))
    repeat (go_quiet (first | (go_at_call 84; (with_reducible refine (devices_current.calls _ _ l0 a1 a2 a3 t101 t102 t103 t104 t105 t106 t107 t108 _ ?side1 ?side2 A5.out).mono ?_); (case side1 => repeat (first | exact HR0.out | (with_reducible refine Kd.C_alloc ?_ _) | (with_reducible refine Kd.C_drewN ?_ _) | (with_reducible refine Kd.C_drew ?_))); (case side2 => exact HC0.out); rintro e w14 ⟨rfl, hb⟩; have n0_ := Aside0.mk (below_step (by repeat (first | (with_reducible first | exact HB.out | apply below_alloc | apply pw_below_drewN | apply below_drew1) | exact HB.out)) hb); clear HB; have HB := n0_; clear n0_; (try clear hb); (try clear hb2); (try clear hk); (try clear hi)) | ((with_reducible refine gate_dst (N := 12) rfl ?_); refine box_event ?hg (N := 12) ?hd (cs := #[.int .i64 0, .int .i64 0, .int .i64 0, .int .i64 0, .int .i64 0, .bool false]) (t := 65) ?hr ?_; (case hd => rfl); (case hg => rfl); (case hr => first | (go_simp; done) | (go_simp; rfl)); intro gb109 hg w15 hbox hb; have n0_ := Aside0.mk (below_step (by repeat (first | (with_reducible first | exact HB.out | apply below_alloc | apply pw_below_drewN | apply below_drew1) | exact HB.out)) hb); have n1_ := Aside0.mk (hbox); have n2_ := Aside0.mk ((by rw [hg]; exact (below_size (by repeat (first | (with_reducible first | exact HB.out | apply below_alloc | apply pw_below_drewN | apply below_drew1) | exact HB.out))) : w.heap.size ≤ gb109)); have n3_ := Aside0.mk ((by rw [hg]; exact (below_size (by repeat (first | (with_reducible first | exact HB.out | apply below_alloc | apply pw_below_drewN | apply below_drew1) | exact HB.out))) : w.heap.size ≤ gb109)); clear HB; have HB := n0_; have BK109 := n1_; have GW109 := n2_; have GE109 := n3_; clear n0_ n1_ n2_ n3_; clear hb hbox hg; have hcz16_0 : w15.cell? ⟨gb109, 0, none⟩ = some (.int .i64 0) := (blk_cell BK109.out 0).trans rfl; have hcz16_1 : w15.cell? ⟨gb109, 1, none⟩ = some (.int .i64 0) := (blk_cell BK109.out 1).trans rfl; have hcz16_2 : w15.cell? ⟨gb109, 2, none⟩ = some (.int .i64 0) := (blk_cell BK109.out 2).trans rfl; have hcz16_3 : w15.cell? ⟨gb109, 3, none⟩ = some (.int .i64 0) := (blk_cell BK109.out 3).trans rfl; have hcz16_4 : w15.cell? ⟨gb109, 4, none⟩ = some (.int .i64 0) := (blk_cell BK109.out 4).trans rfl; have hcz16_5 : w15.cell? ⟨gb109, 5, none⟩ = some (.bool false) := (blk_cell BK109.out 5).trans rfl; have hfz16_0 := blk_frozen BK109.out 0; have hfz16_1 := blk_frozen BK109.out 1; have hfz16_2 := blk_frozen BK109.out 2; have hfz16_3 := blk_frozen BK109.out 3; have hfz16_4 := blk_frozen BK109.out 4; have hfz16_5 := blk_frozen BK109.out 5)); try go_wp2_with (first | (go_at_call 84; (with_reducible refine (devices_current.calls _ _ l0 a1 a2 a3 t101 t102 t103 t104 t105 t106 t107 t108 _ ?side1 ?side2 A5.out).mono ?_); (case side1 => repeat (first | exact HR0.out | (with_reducible refine Kd.C_alloc ?_ _) | (with_reducible refine Kd.C_drewN ?_ _) | (with_reducible refine Kd.C_drew ?_))); (case side2 => exact HC0.out); rintro e w14 ⟨rfl, hb⟩; have n0_ := Aside0.mk (below_step (by repeat (first | (with_reducible first | exact HB.out | apply below_alloc | apply pw_below_drewN | apply below_drew1) | exact HB.out)) hb); clear HB; have HB := n0_; clear n0_; (try clear hb); (try clear hb2); (try clear hk); (try clear hi)) | ((with_reducible refine gate_dst (N := 12) rfl ?_); refine box_event ?hg (N := 12) ?hd (cs := #[.int .i64 0, .int .i64 0, .int .i64 0, .int .i64 0, .int .i64 0, .bool false]) (t := 65) ?hr ?_; (case hd => rfl); (case hg => rfl); (case hr => first | (go_simp; done) | (go_simp; rfl)); intro gb109 hg w15 hbox hb; have n0_ := Aside0.mk (below_step (by repeat (first | (with_reducible first | exact HB.out | apply below_alloc | apply pw_below_drewN | apply below_drew1) | exact HB.out)) hb); have n1_ := Aside0.mk (hbox); have n2_ := Aside0.mk ((by rw [hg]; exact (below_size (by repeat (first | (with_reducible first | exact HB.out | apply below_alloc | apply pw_below_drewN | apply below_drew1) | exact HB.out))) : w.heap.size ≤ gb109)); have n3_ := Aside0.mk ((by rw [hg]; exact (below_size (by repeat (first | (with_reducible first | exact HB.out | apply below_alloc | apply pw_below_drewN | apply below_drew1) | exact HB.out))) : w.heap.size ≤ gb109)); clear HB; have HB := n0_; have BK109 := n1_; have GW109 := n2_; have GE109 := n3_; clear n0_ n1_ n2_ n3_; clear hb hbox hg; have hcz16_0 : w15.cell? ⟨gb109, 0, none⟩ = some (.int .i64 0) := (blk_cell BK109.out 0).trans rfl; have hcz16_1 : w15.cell? ⟨gb109, 1, none⟩ = some (.int .i64 0) := (blk_cell BK109.out 1).trans rfl; have hcz16_2 : w15.cell? ⟨gb109, 2, none⟩ = some (.int .i64 0) := (blk_cell BK109.out 2).trans rfl; have hcz16_3 : w15.cell? ⟨gb109, 3, none⟩ = some (.int .i64 0) := (blk_cell BK109.out 3).trans rfl; have hcz16_4 : w15.cell? ⟨gb109, 4, none⟩ = some (.int .i64 0) := (blk_cell BK109.out 4).trans rfl; have hcz16_5 : w15.cell? ⟨gb109, 5, none⟩ = some (.bool false) := (blk_cell BK109.out 5).trans rfl; have hfz16_0 := blk_frozen BK109.out 0; have hfz16_1 := blk_frozen BK109.out 1; have hfz16_2 := blk_frozen BK109.out 2; have hfz16_3 := blk_frozen BK109.out 3; have hfz16_4 := blk_frozen BK109.out 4; have hfz16_5 := blk_frozen BK109.out 5)))
    refine bodyPost_ret (results_list (rs := [.tmp 8, .tmp 9, .tmp 10, .tmp 11]) rfl (by simp) (.tmp (.tmp (.tmp (.tmp .nil))))) rfl ?_
    exact ⟨by first | rfl | (simp [errW_none, errW_some] <;> rfl) | (simp [*, errW_none, errW_some] <;> rfl), by repeat (first | (with_reducible first | exact HB.out | apply below_alloc | apply pw_below_drewN | apply below_drew1 | refine below_set ?_ GE109.out) | exact HB.out)⟩
def devices_Accepts.f (l0 : List (S65)) (a1 : Int) (l2 : List Int) (a3_0 : Int) (a3_1 : Int) (a4 : Int) (a5 : Int) : Option (Int × Bool × Int) := (devices_current.f l0 a1 a4 a5).bind fun bt111 => (if bt111.2.2.2.2.2.2.2 = 0 then (if bt111.2.2.2.2.2.2.1 = true then ((sign_Verify.f bt111.2.2.2.2.1 l2 a3_0 a3_1).bind fun t120 => (if t120 = true then (some (bt111.1, true, 0)) else (some (0, false, bt111.2.2.2.2.2.2.2)))) else (some (0, false, bt111.2.2.2.2.2.2.2))) else (some (0, false, bt111.2.2.2.2.2.2.2)))
set_option maxHeartbeats 8000000 in
set_option maxRecDepth 100000 in
theorem devices_Accepts.calls (A0 : Option Addr) (c0 : Nat) (l0 : List (S65)) (a1 : Int) (A2 : Option Addr) (c2 : Nat) (l2 : List Int) (a3_0 : Int) (a3_1 : Int) (a4 : Int) (a5 : Int) (r1 : Int) (r2 : Bool) (r3 : Int) (w : World) (hLd : Go.Proofs.YtjbcfdgnafmbkaaDoor.Sha.Laid w) (hr0 : Kd.C k65 w A0 l0.length l0) (hc0 : l0.length ≤ c0) (hr2 : Kd.C (Kd.int .u8) w A2 l2.length l2) (hc2 : l2.length ≤ c2) (h : devices_Accepts.f l0 a1 l2 a3_0 a3_1 a4 a5 = some (r1, r2, r3)) :
    Calls Tryd.prog 49 #[.slice A0 l0.length c0, .int .i64 a1, .slice A2 l2.length c2, .agg #[.int .i64 a3_0, .int .i64 a3_1], .int .i64 a4, .int .i64 a5] w fun e w' => e = .returned (.tuple #[.int .i64 r1, .bool r2, .int .i64 r3]) ∧ Below w.heap.size w w' := by
  have HLd := Aside0.mk hLd
  clear hLd
  have hu73 := Tryd.underlying73
  have hu65 := Tryd.underlying65
  have HR0 := Aside0.mk hr0
  have HC0 := Aside0.mk hc0
  clear hr0 hc0
  have HR2 := Aside0.mk hr2
  have HC2 := Aside0.mk hc2
  clear hr2 hc2
  have HB := Aside0.mk (Below.refl w.heap.size w)
  have H : ((devices_current.f l0 a1 a4 a5).bind fun bt111 => (if bt111.2.2.2.2.2.2.2 = 0 then (if bt111.2.2.2.2.2.2.1 = true then ((sign_Verify.f bt111.2.2.2.2.1 l2 a3_0 a3_1).bind fun t120 => (if t120 = true then (some (bt111.1, true, 0)) else (some (0, false, bt111.2.2.2.2.2.2.2)))) else (some (0, false, bt111.2.2.2.2.2.2.2))) else (some (0, false, bt111.2.2.2.2.2.2.2)))) = some (r1, r2, r3) := h
  clear h
  replace H := Option.bind_eq_some_iff.mp H
  obtain ⟨⟨t111, t112, t113, t114, t115, t116, t117, t118⟩, A70, H⟩ := H
  replace H : (if t118 = 0 then (if t117 = true then ((sign_Verify.f t115 l2 a3_0 a3_1).bind fun t120 => (if t120 = true then (some (t111, true, 0)) else (some (0, false, t118)))) else (some (0, false, t118))) else (some (0, false, t118))) = some (r1, r2, r3) := H
  have A7 := Aside0.mk A70
  clear A70
  by_cases c8 : t118 = 0
  · rw [if_pos c8] at H
    have c8b0 : (t118 == 0) = true := beq_iff_eq.mpr c8
    have c8b1 : (t118 != 0) = false := bne_eq_false_iff_eq.mpr c8
    clear c8
    by_cases c9 : t117 = true
    · subst c9
      have H1 : ((sign_Verify.f t115 l2 a3_0 a3_1).bind fun t120 => (if t120 = true then (some (t111, true, 0)) else (some (0, false, t118)))) = some (r1, r2, r3) := by rw [if_pos rfl] at H; exact H
      clear H
      have H := H1
      clear H1
      replace H := Option.bind_eq_some_iff.mp H
      obtain ⟨t120, A100, H⟩ := H
      replace H : (if t120 = true then (some (t111, true, 0)) else (some (0, false, t118))) = some (r1, r2, r3) := H
      have A10 := Aside0.mk A100
      clear A100
      by_cases c11 : t120 = true
      · subst c11
        have H1 : (some (t111, true, 0)) = some (r1, r2, r3) := by rw [if_pos rfl] at H; exact H
        clear H
        have H := H1
        clear H1
        simp only [Option.some.injEq, Prod.mk.injEq] at H
        obtain ⟨rfl, rfl, rfl⟩ := H
        go_enter Tryd.func49, Tryd.ntmps49
        go_wp2_with (first | ((with_reducible refine gate_dst (N := 9) rfl ?_); refine box_event ?hg (N := 9) ?hd (cs := #[.int .i64 a3_0, .int .i64 a3_1]) (t := 73) ?hr ?_; (case hd => rfl); (case hg => rfl); (case hr => first | (go_simp; done) | (go_simp; rfl)); intro gb110 hg w12 hbox hb; have n0_ := Aside0.mk (below_step (by repeat (first | (with_reducible first | exact HB.out | apply below_alloc | apply pw_below_drewN | apply below_drew1) | exact HB.out)) hb); have n1_ := Aside0.mk (hbox); have n2_ := Aside0.mk ((by rw [hg]; exact (below_size (by repeat (first | (with_reducible first | exact HB.out | apply below_alloc | apply pw_below_drewN | apply below_drew1) | exact HB.out))) : w.heap.size ≤ gb110)); have n3_ := Aside0.mk ((by rw [hg]; exact (below_size (by repeat (first | (with_reducible first | exact HB.out | apply below_alloc | apply pw_below_drewN | apply below_drew1) | exact HB.out))) : w.heap.size ≤ gb110)); clear HB; have HB := n0_; have BK110 := n1_; have GW110 := n2_; have GE110 := n3_; clear n0_ n1_ n2_ n3_; clear hb hbox hg) | ((with_reducible refine gate_callee (f := 84) rfl ?_); refine goesL_ (some 21) rfl rfl Tryd.func84 (by kernel_rfl) rfl #[.slice A0 l0.length c0, .int .i64 a1, .int .i64 a4, .int .i64 a5] rfl (by (try simp only [List.map_toArray, List.map_cons, List.map_nil]); first | done | rfl | (simp only [List.length_drop, List.length_take]; rfl)) ?_; (with_reducible refine (devices_current.calls _ _ l0 a1 a4 a5 t111 t112 t113 t114 t115 t116 true t118 _ ?side1 ?side2 A7.out).mono ?_); (case side1 => repeat (first | exact (Kd.C_below HR0.out HB.out) | (with_reducible refine Kd.C_alloc ?_ _) | (with_reducible refine Kd.C_drewN ?_ _) | (with_reducible refine Kd.C_drew ?_))); (case side2 => exact HC0.out); rintro e w13 ⟨rfl, hb⟩; refine ⟨_, rfl, ?_⟩; have n0_ := Aside0.mk (blk_below (g := gb110) (o := .cells #[.int .i64 a3_0, .int .i64 a3_1] 73 (0, 0)) (by (with_reducible repeat (first | refine blk_drewN ?_ _ | refine blk_drew ?_ | refine blk_alloc ?_ _)); exact BK110.out) hb); have n1_ := Aside0.mk (below_step (by repeat (first | (with_reducible first | exact HB.out | apply below_alloc | apply pw_below_drewN | apply below_drew1 | refine below_set ?_ GE110.out) | exact HB.out)) hb); clear BK110; clear HB; have BK110 := n0_; have HB := n1_; clear n0_ n1_; (try clear hb); (try clear hb2); (try clear hk); (try clear hi)) | ((with_reducible refine gate_dst (N := 15) rfl ?_); refine box_event ?hg (N := 15) ?hd (cs := #[.int .i64 0, .int .i64 0, .int .i64 0, .int .i64 0, .int .i64 0, .bool false]) (t := 65) ?hr ?_; (case hd => rfl); (case hg => rfl); (case hr => first | (go_simp; done) | (go_simp; rfl)); intro gb119 hg w14 hbox hb; have n0_ := Aside0.mk (blk_below (g := gb110) (o := .cells #[.int .i64 a3_0, .int .i64 a3_1] 73 (0, 0)) (by (with_reducible repeat (first | refine blk_drewN ?_ _ | refine blk_drew ?_ | refine blk_alloc ?_ _)); exact BK110.out) hb); have n1_ := Aside0.mk (below_step (by repeat (first | (with_reducible first | exact HB.out | apply below_alloc | apply pw_below_drewN | apply below_drew1 | refine below_set ?_ GE110.out) | exact HB.out)) hb); have n2_ := Aside0.mk (hbox); have n3_ := Aside0.mk ((by rw [hg]; exact (below_size (by repeat (first | (with_reducible first | exact HB.out | apply below_alloc | apply pw_below_drewN | apply below_drew1 | refine below_set ?_ GE110.out) | exact HB.out))) : w.heap.size ≤ gb119)); have n4_ := Aside0.mk ((by rw [hg]; exact (below_size (by repeat (first | (with_reducible first | exact HB.out | apply below_alloc | apply pw_below_drewN | apply below_drew1 | refine below_set ?_ GE110.out) | exact HB.out))) : w.heap.size ≤ gb119)); have n5_ := Aside0.mk ((by rw [hg]; exact Nat.ne_of_lt (blk_lt (g := gb110) (o := .cells #[.int .i64 a3_0, .int .i64 a3_1] 73 (0, 0)) (by (with_reducible repeat (first | refine blk_drewN ?_ _ | refine blk_drew ?_ | refine blk_alloc ?_ _)); exact BK110.out)) : gb110 ≠ gb119)); have n6_ := Aside0.mk ((by rw [hg]; exact Nat.ne_of_gt (blk_lt (g := gb110) (o := .cells #[.int .i64 a3_0, .int .i64 a3_1] 73 (0, 0)) (by (with_reducible repeat (first | refine blk_drewN ?_ _ | refine blk_drew ?_ | refine blk_alloc ?_ _)); exact BK110.out)) : gb119 ≠ gb110)); clear BK110; clear HB; have BK110 := n0_; have HB := n1_; have BK119 := n2_; have GW119 := n3_; have GE119 := n4_; have NB110_119 := n5_; have NB119_110 := n6_; clear n0_ n1_ n2_ n3_ n4_ n5_ n6_; clear hb hbox hg; have hnb15 := NB119_110.out; have hnc15 := NB110_119.out; have hcz16_0 : w14.cell? ⟨gb119, 0, none⟩ = some (.int .i64 0) := (blk_cell BK119.out 0).trans rfl; have hcz16_1 : w14.cell? ⟨gb119, 1, none⟩ = some (.int .i64 0) := (blk_cell BK119.out 1).trans rfl; have hcz16_2 : w14.cell? ⟨gb119, 2, none⟩ = some (.int .i64 0) := (blk_cell BK119.out 2).trans rfl; have hcz16_3 : w14.cell? ⟨gb119, 3, none⟩ = some (.int .i64 0) := (blk_cell BK119.out 3).trans rfl; have hcz16_4 : w14.cell? ⟨gb119, 4, none⟩ = some (.int .i64 0) := (blk_cell BK119.out 4).trans rfl; have hcz16_5 : w14.cell? ⟨gb119, 5, none⟩ = some (.bool false) := (blk_cell BK119.out 5).trans rfl; have hfz16_0 := blk_frozen BK119.out 0; have hfz16_1 := blk_frozen BK119.out 1; have hfz16_2 := blk_frozen BK119.out 2; have hfz16_3 := blk_frozen BK119.out 3; have hfz16_4 := blk_frozen BK119.out 4; have hfz16_5 := blk_frozen BK119.out 5; have hcz17_0 : w14.cell? ⟨gb110, 0, none⟩ = some (.int .i64 a3_0) := (blk_cell BK110.out 0).trans rfl; have hcz17_1 : w14.cell? ⟨gb110, 1, none⟩ = some (.int .i64 a3_1) := (blk_cell BK110.out 1).trans rfl; have hfz17_0 := blk_frozen BK110.out 0; have hfz17_1 := blk_frozen BK110.out 1) | (go_at_call 53; (with_reducible refine (sign_Verify.calls (hLd := ?sideL) t115 _ _ l2 a3_0 a3_1 true _ ?side1 ?side2 A10.out).mono ?_); (case sideL => exact Go.Proofs.YtjbcfdgnafmbkaaDoor.Cod.Laid.below HLd.out (by repeat (first | (with_reducible first | exact HB.out | apply below_alloc | apply pw_below_drewN | apply below_drew1 | refine below_set ?_ GE110.out | refine below_set ?_ GE119.out) | exact HB.out))); (case side1 => exact Kd.C_below HR2.out (by repeat (first | (with_reducible first | exact HB.out | apply below_alloc | apply pw_below_drewN | apply below_drew1 | refine below_set ?_ GE110.out | refine below_set ?_ GE119.out) | exact HB.out))); (case side2 => exact HC2.out); rintro e w18 ⟨rfl, hb⟩; have n0_ := Aside0.mk (blk_below (g := gb110) (o := .cells #[.int .i64 a3_0, .int .i64 a3_1] 73 (0, 0)) (by (with_reducible repeat (first | refine blk_drewN ?_ _ | refine blk_drew ?_ | refine blk_alloc ?_ _)); refine blk_far ?_ NB110_119.out _; (with_reducible repeat (first | refine blk_drewN ?_ _ | refine blk_drew ?_ | refine blk_alloc ?_ _)); refine blk_far ?_ NB110_119.out _; (with_reducible repeat (first | refine blk_drewN ?_ _ | refine blk_drew ?_ | refine blk_alloc ?_ _)); refine blk_far ?_ NB110_119.out _; (with_reducible repeat (first | refine blk_drewN ?_ _ | refine blk_drew ?_ | refine blk_alloc ?_ _)); refine blk_far ?_ NB110_119.out _; (with_reducible repeat (first | refine blk_drewN ?_ _ | refine blk_drew ?_ | refine blk_alloc ?_ _)); refine blk_far ?_ NB110_119.out _; (with_reducible repeat (first | refine blk_drewN ?_ _ | refine blk_drew ?_ | refine blk_alloc ?_ _)); refine blk_far ?_ NB110_119.out _; (with_reducible repeat (first | refine blk_drewN ?_ _ | refine blk_drew ?_ | refine blk_alloc ?_ _)); exact BK110.out) hb); have n1_ := Aside0.mk (blk_below (g := gb119) (o := .cells #[.int .i64 t111, .int .i64 t112, .int .i64 t113, .int .i64 t114, .int .i64 t115, .bool t116] 65 (0, 0)) (by (with_reducible repeat (first | refine blk_drewN ?_ _ | refine blk_drew ?_ | refine blk_alloc ?_ _)); refine blk_put (cs := #[.int .i64 t111, .int .i64 t112, .int .i64 t113, .int .i64 t114, .int .i64 t115, .bool false]) ?_ 5 _ rfl; (with_reducible repeat (first | refine blk_drewN ?_ _ | refine blk_drew ?_ | refine blk_alloc ?_ _)); refine blk_put (cs := #[.int .i64 t111, .int .i64 t112, .int .i64 t113, .int .i64 t114, .int .i64 0, .bool false]) ?_ 4 _ rfl; (with_reducible repeat (first | refine blk_drewN ?_ _ | refine blk_drew ?_ | refine blk_alloc ?_ _)); refine blk_put (cs := #[.int .i64 t111, .int .i64 t112, .int .i64 t113, .int .i64 0, .int .i64 0, .bool false]) ?_ 3 _ rfl; (with_reducible repeat (first | refine blk_drewN ?_ _ | refine blk_drew ?_ | refine blk_alloc ?_ _)); refine blk_put (cs := #[.int .i64 t111, .int .i64 t112, .int .i64 0, .int .i64 0, .int .i64 0, .bool false]) ?_ 2 _ rfl; (with_reducible repeat (first | refine blk_drewN ?_ _ | refine blk_drew ?_ | refine blk_alloc ?_ _)); refine blk_put (cs := #[.int .i64 t111, .int .i64 0, .int .i64 0, .int .i64 0, .int .i64 0, .bool false]) ?_ 1 _ rfl; (with_reducible repeat (first | refine blk_drewN ?_ _ | refine blk_drew ?_ | refine blk_alloc ?_ _)); refine blk_put (cs := #[.int .i64 0, .int .i64 0, .int .i64 0, .int .i64 0, .int .i64 0, .bool false]) ?_ 0 _ rfl; (with_reducible repeat (first | refine blk_drewN ?_ _ | refine blk_drew ?_ | refine blk_alloc ?_ _)); exact BK119.out) hb); have n2_ := Aside0.mk (below_step (by repeat (first | (with_reducible first | exact HB.out | apply below_alloc | apply pw_below_drewN | apply below_drew1 | refine below_set ?_ GE110.out | refine below_set ?_ GE119.out) | exact HB.out)) hb); clear BK110; clear BK119; clear HB; have BK110 := n0_; have BK119 := n1_; have HB := n2_; clear n0_ n1_ n2_; (try clear hb); (try clear hb2); (try clear hk); (try clear hi); have hcz19_0 : w18.cell? ⟨gb119, 0, none⟩ = some (.int .i64 t111) := (blk_cell BK119.out 0).trans rfl; have hcz19_1 : w18.cell? ⟨gb119, 1, none⟩ = some (.int .i64 t112) := (blk_cell BK119.out 1).trans rfl; have hcz19_2 : w18.cell? ⟨gb119, 2, none⟩ = some (.int .i64 t113) := (blk_cell BK119.out 2).trans rfl; have hcz19_3 : w18.cell? ⟨gb119, 3, none⟩ = some (.int .i64 t114) := (blk_cell BK119.out 3).trans rfl; have hcz19_4 : w18.cell? ⟨gb119, 4, none⟩ = some (.int .i64 t115) := (blk_cell BK119.out 4).trans rfl; have hcz19_5 : w18.cell? ⟨gb119, 5, none⟩ = some (.bool t116) := (blk_cell BK119.out 5).trans rfl; have hfz19_0 := blk_frozen BK119.out 0; have hfz19_1 := blk_frozen BK119.out 1; have hfz19_2 := blk_frozen BK119.out 2; have hfz19_3 := blk_frozen BK119.out 3; have hfz19_4 := blk_frozen BK119.out 4; have hfz19_5 := blk_frozen BK119.out 5))
        go_ret3
        exact ⟨by first | rfl | (simp [errW_none, errW_some] <;> rfl) | (simp [*, errW_none, errW_some] <;> rfl), by repeat (first | (with_reducible first | exact HB.out | apply below_alloc | apply pw_below_drewN | apply below_drew1 | refine below_set ?_ GE110.out | refine below_set ?_ GE119.out) | exact HB.out)⟩
      · replace c11 := Bool.eq_false_iff.mpr c11
        subst c11
        have H1 : (some (0, false, t118)) = some (r1, r2, r3) := by rw [if_neg (show ¬ (false = true) by decide)] at H; exact H
        clear H
        have H := H1
        clear H1
        simp only [Option.some.injEq, Prod.mk.injEq] at H
        obtain ⟨rfl, rfl, rfl⟩ := H
        go_enter Tryd.func49, Tryd.ntmps49
        go_wp2_with (first | ((with_reducible refine gate_dst (N := 9) rfl ?_); refine box_event ?hg (N := 9) ?hd (cs := #[.int .i64 a3_0, .int .i64 a3_1]) (t := 73) ?hr ?_; (case hd => rfl); (case hg => rfl); (case hr => first | (go_simp; done) | (go_simp; rfl)); intro gb110 hg w20 hbox hb; have n0_ := Aside0.mk (below_step (by repeat (first | (with_reducible first | exact HB.out | apply below_alloc | apply pw_below_drewN | apply below_drew1) | exact HB.out)) hb); have n1_ := Aside0.mk (hbox); have n2_ := Aside0.mk ((by rw [hg]; exact (below_size (by repeat (first | (with_reducible first | exact HB.out | apply below_alloc | apply pw_below_drewN | apply below_drew1) | exact HB.out))) : w.heap.size ≤ gb110)); have n3_ := Aside0.mk ((by rw [hg]; exact (below_size (by repeat (first | (with_reducible first | exact HB.out | apply below_alloc | apply pw_below_drewN | apply below_drew1) | exact HB.out))) : w.heap.size ≤ gb110)); clear HB; have HB := n0_; have BK110 := n1_; have GW110 := n2_; have GE110 := n3_; clear n0_ n1_ n2_ n3_; clear hb hbox hg) | ((with_reducible refine gate_callee (f := 84) rfl ?_); refine goesL_ (some 21) rfl rfl Tryd.func84 (by kernel_rfl) rfl #[.slice A0 l0.length c0, .int .i64 a1, .int .i64 a4, .int .i64 a5] rfl (by (try simp only [List.map_toArray, List.map_cons, List.map_nil]); first | done | rfl | (simp only [List.length_drop, List.length_take]; rfl)) ?_; (with_reducible refine (devices_current.calls _ _ l0 a1 a4 a5 t111 t112 t113 t114 t115 t116 true t118 _ ?side1 ?side2 A7.out).mono ?_); (case side1 => repeat (first | exact (Kd.C_below HR0.out HB.out) | (with_reducible refine Kd.C_alloc ?_ _) | (with_reducible refine Kd.C_drewN ?_ _) | (with_reducible refine Kd.C_drew ?_))); (case side2 => exact HC0.out); rintro e w21 ⟨rfl, hb⟩; refine ⟨_, rfl, ?_⟩; have n0_ := Aside0.mk (blk_below (g := gb110) (o := .cells #[.int .i64 a3_0, .int .i64 a3_1] 73 (0, 0)) (by (with_reducible repeat (first | refine blk_drewN ?_ _ | refine blk_drew ?_ | refine blk_alloc ?_ _)); exact BK110.out) hb); have n1_ := Aside0.mk (below_step (by repeat (first | (with_reducible first | exact HB.out | apply below_alloc | apply pw_below_drewN | apply below_drew1 | refine below_set ?_ GE110.out) | exact HB.out)) hb); clear BK110; clear HB; have BK110 := n0_; have HB := n1_; clear n0_ n1_; (try clear hb); (try clear hb2); (try clear hk); (try clear hi)) | ((with_reducible refine gate_dst (N := 15) rfl ?_); refine box_event ?hg (N := 15) ?hd (cs := #[.int .i64 0, .int .i64 0, .int .i64 0, .int .i64 0, .int .i64 0, .bool false]) (t := 65) ?hr ?_; (case hd => rfl); (case hg => rfl); (case hr => first | (go_simp; done) | (go_simp; rfl)); intro gb119 hg w22 hbox hb; have n0_ := Aside0.mk (blk_below (g := gb110) (o := .cells #[.int .i64 a3_0, .int .i64 a3_1] 73 (0, 0)) (by (with_reducible repeat (first | refine blk_drewN ?_ _ | refine blk_drew ?_ | refine blk_alloc ?_ _)); exact BK110.out) hb); have n1_ := Aside0.mk (below_step (by repeat (first | (with_reducible first | exact HB.out | apply below_alloc | apply pw_below_drewN | apply below_drew1 | refine below_set ?_ GE110.out) | exact HB.out)) hb); have n2_ := Aside0.mk (hbox); have n3_ := Aside0.mk ((by rw [hg]; exact (below_size (by repeat (first | (with_reducible first | exact HB.out | apply below_alloc | apply pw_below_drewN | apply below_drew1 | refine below_set ?_ GE110.out) | exact HB.out))) : w.heap.size ≤ gb119)); have n4_ := Aside0.mk ((by rw [hg]; exact (below_size (by repeat (first | (with_reducible first | exact HB.out | apply below_alloc | apply pw_below_drewN | apply below_drew1 | refine below_set ?_ GE110.out) | exact HB.out))) : w.heap.size ≤ gb119)); have n5_ := Aside0.mk ((by rw [hg]; exact Nat.ne_of_lt (blk_lt (g := gb110) (o := .cells #[.int .i64 a3_0, .int .i64 a3_1] 73 (0, 0)) (by (with_reducible repeat (first | refine blk_drewN ?_ _ | refine blk_drew ?_ | refine blk_alloc ?_ _)); exact BK110.out)) : gb110 ≠ gb119)); have n6_ := Aside0.mk ((by rw [hg]; exact Nat.ne_of_gt (blk_lt (g := gb110) (o := .cells #[.int .i64 a3_0, .int .i64 a3_1] 73 (0, 0)) (by (with_reducible repeat (first | refine blk_drewN ?_ _ | refine blk_drew ?_ | refine blk_alloc ?_ _)); exact BK110.out)) : gb119 ≠ gb110)); clear BK110; clear HB; have BK110 := n0_; have HB := n1_; have BK119 := n2_; have GW119 := n3_; have GE119 := n4_; have NB110_119 := n5_; have NB119_110 := n6_; clear n0_ n1_ n2_ n3_ n4_ n5_ n6_; clear hb hbox hg; have hnb23 := NB119_110.out; have hnc23 := NB110_119.out; have hcz24_0 : w22.cell? ⟨gb119, 0, none⟩ = some (.int .i64 0) := (blk_cell BK119.out 0).trans rfl; have hcz24_1 : w22.cell? ⟨gb119, 1, none⟩ = some (.int .i64 0) := (blk_cell BK119.out 1).trans rfl; have hcz24_2 : w22.cell? ⟨gb119, 2, none⟩ = some (.int .i64 0) := (blk_cell BK119.out 2).trans rfl; have hcz24_3 : w22.cell? ⟨gb119, 3, none⟩ = some (.int .i64 0) := (blk_cell BK119.out 3).trans rfl; have hcz24_4 : w22.cell? ⟨gb119, 4, none⟩ = some (.int .i64 0) := (blk_cell BK119.out 4).trans rfl; have hcz24_5 : w22.cell? ⟨gb119, 5, none⟩ = some (.bool false) := (blk_cell BK119.out 5).trans rfl; have hfz24_0 := blk_frozen BK119.out 0; have hfz24_1 := blk_frozen BK119.out 1; have hfz24_2 := blk_frozen BK119.out 2; have hfz24_3 := blk_frozen BK119.out 3; have hfz24_4 := blk_frozen BK119.out 4; have hfz24_5 := blk_frozen BK119.out 5; have hcz25_0 : w22.cell? ⟨gb110, 0, none⟩ = some (.int .i64 a3_0) := (blk_cell BK110.out 0).trans rfl; have hcz25_1 : w22.cell? ⟨gb110, 1, none⟩ = some (.int .i64 a3_1) := (blk_cell BK110.out 1).trans rfl; have hfz25_0 := blk_frozen BK110.out 0; have hfz25_1 := blk_frozen BK110.out 1) | (go_at_call 53; (with_reducible refine (sign_Verify.calls (hLd := ?sideL) t115 _ _ l2 a3_0 a3_1 false _ ?side1 ?side2 A10.out).mono ?_); (case sideL => exact Go.Proofs.YtjbcfdgnafmbkaaDoor.Cod.Laid.below HLd.out (by repeat (first | (with_reducible first | exact HB.out | apply below_alloc | apply pw_below_drewN | apply below_drew1 | refine below_set ?_ GE110.out | refine below_set ?_ GE119.out) | exact HB.out))); (case side1 => exact Kd.C_below HR2.out (by repeat (first | (with_reducible first | exact HB.out | apply below_alloc | apply pw_below_drewN | apply below_drew1 | refine below_set ?_ GE110.out | refine below_set ?_ GE119.out) | exact HB.out))); (case side2 => exact HC2.out); rintro e w26 ⟨rfl, hb⟩; have n0_ := Aside0.mk (blk_below (g := gb110) (o := .cells #[.int .i64 a3_0, .int .i64 a3_1] 73 (0, 0)) (by (with_reducible repeat (first | refine blk_drewN ?_ _ | refine blk_drew ?_ | refine blk_alloc ?_ _)); refine blk_far ?_ NB110_119.out _; (with_reducible repeat (first | refine blk_drewN ?_ _ | refine blk_drew ?_ | refine blk_alloc ?_ _)); refine blk_far ?_ NB110_119.out _; (with_reducible repeat (first | refine blk_drewN ?_ _ | refine blk_drew ?_ | refine blk_alloc ?_ _)); refine blk_far ?_ NB110_119.out _; (with_reducible repeat (first | refine blk_drewN ?_ _ | refine blk_drew ?_ | refine blk_alloc ?_ _)); refine blk_far ?_ NB110_119.out _; (with_reducible repeat (first | refine blk_drewN ?_ _ | refine blk_drew ?_ | refine blk_alloc ?_ _)); refine blk_far ?_ NB110_119.out _; (with_reducible repeat (first | refine blk_drewN ?_ _ | refine blk_drew ?_ | refine blk_alloc ?_ _)); refine blk_far ?_ NB110_119.out _; (with_reducible repeat (first | refine blk_drewN ?_ _ | refine blk_drew ?_ | refine blk_alloc ?_ _)); exact BK110.out) hb); have n1_ := Aside0.mk (blk_below (g := gb119) (o := .cells #[.int .i64 t111, .int .i64 t112, .int .i64 t113, .int .i64 t114, .int .i64 t115, .bool t116] 65 (0, 0)) (by (with_reducible repeat (first | refine blk_drewN ?_ _ | refine blk_drew ?_ | refine blk_alloc ?_ _)); refine blk_put (cs := #[.int .i64 t111, .int .i64 t112, .int .i64 t113, .int .i64 t114, .int .i64 t115, .bool false]) ?_ 5 _ rfl; (with_reducible repeat (first | refine blk_drewN ?_ _ | refine blk_drew ?_ | refine blk_alloc ?_ _)); refine blk_put (cs := #[.int .i64 t111, .int .i64 t112, .int .i64 t113, .int .i64 t114, .int .i64 0, .bool false]) ?_ 4 _ rfl; (with_reducible repeat (first | refine blk_drewN ?_ _ | refine blk_drew ?_ | refine blk_alloc ?_ _)); refine blk_put (cs := #[.int .i64 t111, .int .i64 t112, .int .i64 t113, .int .i64 0, .int .i64 0, .bool false]) ?_ 3 _ rfl; (with_reducible repeat (first | refine blk_drewN ?_ _ | refine blk_drew ?_ | refine blk_alloc ?_ _)); refine blk_put (cs := #[.int .i64 t111, .int .i64 t112, .int .i64 0, .int .i64 0, .int .i64 0, .bool false]) ?_ 2 _ rfl; (with_reducible repeat (first | refine blk_drewN ?_ _ | refine blk_drew ?_ | refine blk_alloc ?_ _)); refine blk_put (cs := #[.int .i64 t111, .int .i64 0, .int .i64 0, .int .i64 0, .int .i64 0, .bool false]) ?_ 1 _ rfl; (with_reducible repeat (first | refine blk_drewN ?_ _ | refine blk_drew ?_ | refine blk_alloc ?_ _)); refine blk_put (cs := #[.int .i64 0, .int .i64 0, .int .i64 0, .int .i64 0, .int .i64 0, .bool false]) ?_ 0 _ rfl; (with_reducible repeat (first | refine blk_drewN ?_ _ | refine blk_drew ?_ | refine blk_alloc ?_ _)); exact BK119.out) hb); have n2_ := Aside0.mk (below_step (by repeat (first | (with_reducible first | exact HB.out | apply below_alloc | apply pw_below_drewN | apply below_drew1 | refine below_set ?_ GE110.out | refine below_set ?_ GE119.out) | exact HB.out)) hb); clear BK110; clear BK119; clear HB; have BK110 := n0_; have BK119 := n1_; have HB := n2_; clear n0_ n1_ n2_; (try clear hb); (try clear hb2); (try clear hk); (try clear hi)))
        go_ret3
        exact ⟨by first | rfl | (simp [errW_none, errW_some] <;> rfl) | (simp [*, errW_none, errW_some] <;> rfl), by repeat (first | (with_reducible first | exact HB.out | apply below_alloc | apply pw_below_drewN | apply below_drew1 | refine below_set ?_ GE110.out | refine below_set ?_ GE119.out) | exact HB.out)⟩
    · replace c9 := Bool.eq_false_iff.mpr c9
      subst c9
      have H1 : (some (0, false, t118)) = some (r1, r2, r3) := by rw [if_neg (show ¬ (false = true) by decide)] at H; exact H
      clear H
      have H := H1
      clear H1
      simp only [Option.some.injEq, Prod.mk.injEq] at H
      obtain ⟨rfl, rfl, rfl⟩ := H
      go_enter Tryd.func49, Tryd.ntmps49
      go_wp2_with (first | ((with_reducible refine gate_dst (N := 9) rfl ?_); refine box_event ?hg (N := 9) ?hd (cs := #[.int .i64 a3_0, .int .i64 a3_1]) (t := 73) ?hr ?_; (case hd => rfl); (case hg => rfl); (case hr => first | (go_simp; done) | (go_simp; rfl)); intro gb110 hg w27 hbox hb; have n0_ := Aside0.mk (below_step (by repeat (first | (with_reducible first | exact HB.out | apply below_alloc | apply pw_below_drewN | apply below_drew1) | exact HB.out)) hb); have n1_ := Aside0.mk (hbox); have n2_ := Aside0.mk ((by rw [hg]; exact (below_size (by repeat (first | (with_reducible first | exact HB.out | apply below_alloc | apply pw_below_drewN | apply below_drew1) | exact HB.out))) : w.heap.size ≤ gb110)); have n3_ := Aside0.mk ((by rw [hg]; exact (below_size (by repeat (first | (with_reducible first | exact HB.out | apply below_alloc | apply pw_below_drewN | apply below_drew1) | exact HB.out))) : w.heap.size ≤ gb110)); clear HB; have HB := n0_; have BK110 := n1_; have GW110 := n2_; have GE110 := n3_; clear n0_ n1_ n2_ n3_; clear hb hbox hg) | ((with_reducible refine gate_callee (f := 84) rfl ?_); refine goesL_ (some 21) rfl rfl Tryd.func84 (by kernel_rfl) rfl #[.slice A0 l0.length c0, .int .i64 a1, .int .i64 a4, .int .i64 a5] rfl (by (try simp only [List.map_toArray, List.map_cons, List.map_nil]); first | done | rfl | (simp only [List.length_drop, List.length_take]; rfl)) ?_; (with_reducible refine (devices_current.calls _ _ l0 a1 a4 a5 t111 t112 t113 t114 t115 t116 false t118 _ ?side1 ?side2 A7.out).mono ?_); (case side1 => repeat (first | exact (Kd.C_below HR0.out HB.out) | (with_reducible refine Kd.C_alloc ?_ _) | (with_reducible refine Kd.C_drewN ?_ _) | (with_reducible refine Kd.C_drew ?_))); (case side2 => exact HC0.out); rintro e w28 ⟨rfl, hb⟩; refine ⟨_, rfl, ?_⟩; have n0_ := Aside0.mk (blk_below (g := gb110) (o := .cells #[.int .i64 a3_0, .int .i64 a3_1] 73 (0, 0)) (by (with_reducible repeat (first | refine blk_drewN ?_ _ | refine blk_drew ?_ | refine blk_alloc ?_ _)); exact BK110.out) hb); have n1_ := Aside0.mk (below_step (by repeat (first | (with_reducible first | exact HB.out | apply below_alloc | apply pw_below_drewN | apply below_drew1 | refine below_set ?_ GE110.out) | exact HB.out)) hb); clear BK110; clear HB; have BK110 := n0_; have HB := n1_; clear n0_ n1_; (try clear hb); (try clear hb2); (try clear hk); (try clear hi)) | ((with_reducible refine gate_dst (N := 15) rfl ?_); refine box_event ?hg (N := 15) ?hd (cs := #[.int .i64 0, .int .i64 0, .int .i64 0, .int .i64 0, .int .i64 0, .bool false]) (t := 65) ?hr ?_; (case hd => rfl); (case hg => rfl); (case hr => first | (go_simp; done) | (go_simp; rfl)); intro gb119 hg w29 hbox hb; have n0_ := Aside0.mk (blk_below (g := gb110) (o := .cells #[.int .i64 a3_0, .int .i64 a3_1] 73 (0, 0)) (by (with_reducible repeat (first | refine blk_drewN ?_ _ | refine blk_drew ?_ | refine blk_alloc ?_ _)); exact BK110.out) hb); have n1_ := Aside0.mk (below_step (by repeat (first | (with_reducible first | exact HB.out | apply below_alloc | apply pw_below_drewN | apply below_drew1 | refine below_set ?_ GE110.out) | exact HB.out)) hb); have n2_ := Aside0.mk (hbox); have n3_ := Aside0.mk ((by rw [hg]; exact (below_size (by repeat (first | (with_reducible first | exact HB.out | apply below_alloc | apply pw_below_drewN | apply below_drew1 | refine below_set ?_ GE110.out) | exact HB.out))) : w.heap.size ≤ gb119)); have n4_ := Aside0.mk ((by rw [hg]; exact (below_size (by repeat (first | (with_reducible first | exact HB.out | apply below_alloc | apply pw_below_drewN | apply below_drew1 | refine below_set ?_ GE110.out) | exact HB.out))) : w.heap.size ≤ gb119)); have n5_ := Aside0.mk ((by rw [hg]; exact Nat.ne_of_lt (blk_lt (g := gb110) (o := .cells #[.int .i64 a3_0, .int .i64 a3_1] 73 (0, 0)) (by (with_reducible repeat (first | refine blk_drewN ?_ _ | refine blk_drew ?_ | refine blk_alloc ?_ _)); exact BK110.out)) : gb110 ≠ gb119)); have n6_ := Aside0.mk ((by rw [hg]; exact Nat.ne_of_gt (blk_lt (g := gb110) (o := .cells #[.int .i64 a3_0, .int .i64 a3_1] 73 (0, 0)) (by (with_reducible repeat (first | refine blk_drewN ?_ _ | refine blk_drew ?_ | refine blk_alloc ?_ _)); exact BK110.out)) : gb119 ≠ gb110)); clear BK110; clear HB; have BK110 := n0_; have HB := n1_; have BK119 := n2_; have GW119 := n3_; have GE119 := n4_; have NB110_119 := n5_; have NB119_110 := n6_; clear n0_ n1_ n2_ n3_ n4_ n5_ n6_; clear hb hbox hg; have hnb30 := NB119_110.out; have hnc30 := NB110_119.out; have hcz31_0 : w29.cell? ⟨gb119, 0, none⟩ = some (.int .i64 0) := (blk_cell BK119.out 0).trans rfl; have hcz31_1 : w29.cell? ⟨gb119, 1, none⟩ = some (.int .i64 0) := (blk_cell BK119.out 1).trans rfl; have hcz31_2 : w29.cell? ⟨gb119, 2, none⟩ = some (.int .i64 0) := (blk_cell BK119.out 2).trans rfl; have hcz31_3 : w29.cell? ⟨gb119, 3, none⟩ = some (.int .i64 0) := (blk_cell BK119.out 3).trans rfl; have hcz31_4 : w29.cell? ⟨gb119, 4, none⟩ = some (.int .i64 0) := (blk_cell BK119.out 4).trans rfl; have hcz31_5 : w29.cell? ⟨gb119, 5, none⟩ = some (.bool false) := (blk_cell BK119.out 5).trans rfl; have hfz31_0 := blk_frozen BK119.out 0; have hfz31_1 := blk_frozen BK119.out 1; have hfz31_2 := blk_frozen BK119.out 2; have hfz31_3 := blk_frozen BK119.out 3; have hfz31_4 := blk_frozen BK119.out 4; have hfz31_5 := blk_frozen BK119.out 5))
      go_ret3
      exact ⟨by first | rfl | (simp [errW_none, errW_some] <;> rfl) | (simp [*, errW_none, errW_some] <;> rfl), by repeat (first | (with_reducible first | exact HB.out | apply below_alloc | apply pw_below_drewN | apply below_drew1 | refine below_set ?_ GE110.out | refine below_set ?_ GE119.out) | exact HB.out)⟩
  · rw [if_neg c8] at H
    have c8b0 : (t118 == 0) = false := beq_eq_false_iff_ne.mpr c8
    have c8b1 : (t118 != 0) = true := bne_iff_ne.mpr c8
    simp only [Option.some.injEq, Prod.mk.injEq] at H
    obtain ⟨rfl, rfl, rfl⟩ := H
    go_enter Tryd.func49, Tryd.ntmps49
    go_wp2_with (first | ((with_reducible refine gate_dst (N := 9) rfl ?_); refine box_event ?hg (N := 9) ?hd (cs := #[.int .i64 a3_0, .int .i64 a3_1]) (t := 73) ?hr ?_; (case hd => rfl); (case hg => rfl); (case hr => first | (go_simp; done) | (go_simp; rfl)); intro gb110 hg w32 hbox hb; have n0_ := Aside0.mk (below_step (by repeat (first | (with_reducible first | exact HB.out | apply below_alloc | apply pw_below_drewN | apply below_drew1) | exact HB.out)) hb); have n1_ := Aside0.mk (hbox); have n2_ := Aside0.mk ((by rw [hg]; exact (below_size (by repeat (first | (with_reducible first | exact HB.out | apply below_alloc | apply pw_below_drewN | apply below_drew1) | exact HB.out))) : w.heap.size ≤ gb110)); have n3_ := Aside0.mk ((by rw [hg]; exact (below_size (by repeat (first | (with_reducible first | exact HB.out | apply below_alloc | apply pw_below_drewN | apply below_drew1) | exact HB.out))) : w.heap.size ≤ gb110)); clear HB; have HB := n0_; have BK110 := n1_; have GW110 := n2_; have GE110 := n3_; clear n0_ n1_ n2_ n3_; clear hb hbox hg) | ((with_reducible refine gate_callee (f := 84) rfl ?_); refine goesL_ (some 21) rfl rfl Tryd.func84 (by kernel_rfl) rfl #[.slice A0 l0.length c0, .int .i64 a1, .int .i64 a4, .int .i64 a5] rfl (by (try simp only [List.map_toArray, List.map_cons, List.map_nil]); first | done | rfl | (simp only [List.length_drop, List.length_take]; rfl)) ?_; (with_reducible refine (devices_current.calls _ _ l0 a1 a4 a5 t111 t112 t113 t114 t115 t116 t117 t118 _ ?side1 ?side2 A7.out).mono ?_); (case side1 => repeat (first | exact (Kd.C_below HR0.out HB.out) | (with_reducible refine Kd.C_alloc ?_ _) | (with_reducible refine Kd.C_drewN ?_ _) | (with_reducible refine Kd.C_drew ?_))); (case side2 => exact HC0.out); rintro e w33 ⟨rfl, hb⟩; refine ⟨_, rfl, ?_⟩; have n0_ := Aside0.mk (blk_below (g := gb110) (o := .cells #[.int .i64 a3_0, .int .i64 a3_1] 73 (0, 0)) (by (with_reducible repeat (first | refine blk_drewN ?_ _ | refine blk_drew ?_ | refine blk_alloc ?_ _)); exact BK110.out) hb); have n1_ := Aside0.mk (below_step (by repeat (first | (with_reducible first | exact HB.out | apply below_alloc | apply pw_below_drewN | apply below_drew1 | refine below_set ?_ GE110.out) | exact HB.out)) hb); clear BK110; clear HB; have BK110 := n0_; have HB := n1_; clear n0_ n1_; (try clear hb); (try clear hb2); (try clear hk); (try clear hi)) | ((with_reducible refine gate_dst (N := 15) rfl ?_); refine box_event ?hg (N := 15) ?hd (cs := #[.int .i64 0, .int .i64 0, .int .i64 0, .int .i64 0, .int .i64 0, .bool false]) (t := 65) ?hr ?_; (case hd => rfl); (case hg => rfl); (case hr => first | (go_simp; done) | (go_simp; rfl)); intro gb119 hg w34 hbox hb; have n0_ := Aside0.mk (blk_below (g := gb110) (o := .cells #[.int .i64 a3_0, .int .i64 a3_1] 73 (0, 0)) (by (with_reducible repeat (first | refine blk_drewN ?_ _ | refine blk_drew ?_ | refine blk_alloc ?_ _)); exact BK110.out) hb); have n1_ := Aside0.mk (below_step (by repeat (first | (with_reducible first | exact HB.out | apply below_alloc | apply pw_below_drewN | apply below_drew1 | refine below_set ?_ GE110.out) | exact HB.out)) hb); have n2_ := Aside0.mk (hbox); have n3_ := Aside0.mk ((by rw [hg]; exact (below_size (by repeat (first | (with_reducible first | exact HB.out | apply below_alloc | apply pw_below_drewN | apply below_drew1 | refine below_set ?_ GE110.out) | exact HB.out))) : w.heap.size ≤ gb119)); have n4_ := Aside0.mk ((by rw [hg]; exact (below_size (by repeat (first | (with_reducible first | exact HB.out | apply below_alloc | apply pw_below_drewN | apply below_drew1 | refine below_set ?_ GE110.out) | exact HB.out))) : w.heap.size ≤ gb119)); have n5_ := Aside0.mk ((by rw [hg]; exact Nat.ne_of_lt (blk_lt (g := gb110) (o := .cells #[.int .i64 a3_0, .int .i64 a3_1] 73 (0, 0)) (by (with_reducible repeat (first | refine blk_drewN ?_ _ | refine blk_drew ?_ | refine blk_alloc ?_ _)); exact BK110.out)) : gb110 ≠ gb119)); have n6_ := Aside0.mk ((by rw [hg]; exact Nat.ne_of_gt (blk_lt (g := gb110) (o := .cells #[.int .i64 a3_0, .int .i64 a3_1] 73 (0, 0)) (by (with_reducible repeat (first | refine blk_drewN ?_ _ | refine blk_drew ?_ | refine blk_alloc ?_ _)); exact BK110.out)) : gb119 ≠ gb110)); clear BK110; clear HB; have BK110 := n0_; have HB := n1_; have BK119 := n2_; have GW119 := n3_; have GE119 := n4_; have NB110_119 := n5_; have NB119_110 := n6_; clear n0_ n1_ n2_ n3_ n4_ n5_ n6_; clear hb hbox hg; have hnb35 := NB119_110.out; have hnc35 := NB110_119.out; have hcz36_0 : w34.cell? ⟨gb119, 0, none⟩ = some (.int .i64 0) := (blk_cell BK119.out 0).trans rfl; have hcz36_1 : w34.cell? ⟨gb119, 1, none⟩ = some (.int .i64 0) := (blk_cell BK119.out 1).trans rfl; have hcz36_2 : w34.cell? ⟨gb119, 2, none⟩ = some (.int .i64 0) := (blk_cell BK119.out 2).trans rfl; have hcz36_3 : w34.cell? ⟨gb119, 3, none⟩ = some (.int .i64 0) := (blk_cell BK119.out 3).trans rfl; have hcz36_4 : w34.cell? ⟨gb119, 4, none⟩ = some (.int .i64 0) := (blk_cell BK119.out 4).trans rfl; have hcz36_5 : w34.cell? ⟨gb119, 5, none⟩ = some (.bool false) := (blk_cell BK119.out 5).trans rfl; have hfz36_0 := blk_frozen BK119.out 0; have hfz36_1 := blk_frozen BK119.out 1; have hfz36_2 := blk_frozen BK119.out 2; have hfz36_3 := blk_frozen BK119.out 3; have hfz36_4 := blk_frozen BK119.out 4; have hfz36_5 := blk_frozen BK119.out 5))
    go_ret3
    exact ⟨by first | rfl | (simp [errW_none, errW_some] <;> rfl) | (simp [*, errW_none, errW_some] <;> rfl), by repeat (first | (with_reducible first | exact HB.out | apply below_alloc | apply pw_below_drewN | apply below_drew1 | refine below_set ?_ GE110.out | refine below_set ?_ GE119.out) | exact HB.out)⟩
def signatorylaw48_is.f (l0 : List (S65)) (a1 : Int) (l2 : List Int) : Option (Bool) := (devices_Current.f l0 0 a1 0).bind fun bt121 => (if bt121.2.2.2 = 0 then (if (bt121.2.2.1 == ((l2.length : Int) == 2)) = true then (if bt121.2.2.1 = true then (if 0 < (l2.length : Int) then (if bt121.1 = (rd l2 0) then (if 1 < (l2.length : Int) then (some (bt121.2.1 == (rd l2 1))) else (none)) else (some false)) else (none)) else (if bt121.1 = 0 then (if bt121.2.1 = 0 then (some true) else (some false)) else (some false))) else (some false)) else (some false))
set_option maxHeartbeats 8000000 in
set_option maxRecDepth 100000 in
theorem signatorylaw48_is.calls (A0 : Option Addr) (c0 : Nat) (l0 : List (S65)) (a1 : Int) (A2 : Option Addr) (c2 : Nat) (l2 : List Int) (r : Bool) (w : World) (hr0 : Kd.C k65 w A0 l0.length l0) (hc0 : l0.length ≤ c0) (hr2 : Kd.C (Kd.int .i64) w A2 l2.length l2) (hc2 : l2.length ≤ c2) (h : signatorylaw48_is.f l0 a1 l2 = some r) :
    Calls Tryd.prog 73 #[.slice A0 l0.length c0, .int .i64 a1, .slice A2 l2.length c2] w fun e w' => e = .returned (.bool r) ∧ Below w.heap.size w w' := by
  have HR0 := Aside0.mk hr0
  have HC0 := Aside0.mk hc0
  clear hr0 hc0
  have HR2 := Aside0.mk hr2
  have HC2 := Aside0.mk hc2
  clear hr2 hc2
  have HB := Aside0.mk (Below.refl w.heap.size w)
  have H : ((devices_Current.f l0 0 a1 0).bind fun bt121 => (if bt121.2.2.2 = 0 then (if (bt121.2.2.1 == ((l2.length : Int) == 2)) = true then (if bt121.2.2.1 = true then (if 0 < (l2.length : Int) then (if bt121.1 = (rd l2 0) then (if 1 < (l2.length : Int) then (some (bt121.2.1 == (rd l2 1))) else (none)) else (some false)) else (none)) else (if bt121.1 = 0 then (if bt121.2.1 = 0 then (some true) else (some false)) else (some false))) else (some false)) else (some false))) = some r := h
  clear h
  replace H := Option.bind_eq_some_iff.mp H
  obtain ⟨⟨t121, t122, t123, t124⟩, A40, H⟩ := H
  replace H : (if t124 = 0 then (if (t123 == ((l2.length : Int) == 2)) = true then (if t123 = true then (if 0 < (l2.length : Int) then (if t121 = (rd l2 0) then (if 1 < (l2.length : Int) then (some (t122 == (rd l2 1))) else (none)) else (some false)) else (none)) else (if t121 = 0 then (if t122 = 0 then (some true) else (some false)) else (some false))) else (some false)) else (some false)) = some r := H
  have A4 := Aside0.mk A40
  clear A40
  by_cases c5 : t124 = 0
  · rw [if_pos c5] at H
    have c5b0 : (t124 == 0) = true := beq_iff_eq.mpr c5
    have c5b1 : (t124 != 0) = false := bne_eq_false_iff_eq.mpr c5
    clear c5
    by_cases c6 : (t123 == ((l2.length : Int) == 2)) = true
    · rw [if_pos c6] at H
      have c6b0 : (t123 == ((l2.length : Int) == 2)) = true := c6
      (try (have c6b1 : decide (t123 = ((l2.length : Int) == 2)) = true := by simpa using c6))
      (try (have c6b2 : (t123 == ((l2.length : Int) == 2)) = true := by simpa using c6))
      clear c6
      by_cases c7 : t123 = true
      · subst c7
        have H1 : (if 0 < (l2.length : Int) then (if t121 = (rd l2 0) then (if 1 < (l2.length : Int) then (some (t122 == (rd l2 1))) else (none)) else (some false)) else (none)) = some r := by rw [if_pos rfl] at H; exact H
        clear H
        have H := H1
        clear H1
        by_cases c8 : 0 < (l2.length : Int)
        · rw [if_pos c8] at H
          have c8b0 : decide (0 < (l2.length : Int)) = true := decide_eq_true c8
          have c8b1 : decide (0 < l2.length) = true := decide_eq_true (by omega)
          clear c8
          by_cases c9 : t121 = (rd l2 0)
          · rw [if_pos c9] at H
            have c9b0 : (t121 == (rd l2 0)) = true := beq_iff_eq.mpr c9
            have c9b1 : (t121 != (rd l2 0)) = false := bne_eq_false_iff_eq.mpr c9
            clear c9
            by_cases c10 : 1 < (l2.length : Int)
            · rw [if_pos c10] at H
              have c10b0 : decide (1 < (l2.length : Int)) = true := decide_eq_true c10
              have c10b1 : decide (1 < l2.length) = true := decide_eq_true (by omega)
              clear c10
              obtain rfl := Option.some.inj H
              go_enter Tryd.func73, Tryd.ntmps73
              go_wp2_with (first | ((with_reducible refine gate_callee (f := 47) rfl ?_); refine goesL_ (some 14) rfl rfl Tryd.func47 (by kernel_rfl) rfl #[.slice A0 l0.length c0, .int .i64 0, .int .i64 a1, .int .i64 0] rfl (by (try simp only [List.map_toArray, List.map_cons, List.map_nil]); first | done | rfl | (simp only [List.length_drop, List.length_take]; rfl)) ?_; (with_reducible refine (devices_Current.calls _ _ l0 0 a1 0 t121 t122 true t124 _ ?side1 ?side2 A4.out).mono ?_); (case side1 => repeat (first | exact HR0.out | (with_reducible refine Kd.C_alloc ?_ _) | (with_reducible refine Kd.C_drewN ?_ _) | (with_reducible refine Kd.C_drew ?_))); (case side2 => exact HC0.out); rintro e w11 ⟨rfl, hb⟩; refine ⟨_, rfl, ?_⟩; have n0_ := Aside0.mk (below_step (by repeat (first | (with_reducible first | exact HB.out | apply below_alloc | apply pw_below_drewN | apply below_drew1) | exact HB.out)) hb); clear HB; have HB := n0_; clear n0_; (try clear hb); (try clear hb2); (try clear hk); (try clear hi); have p125 : 0 ≤ (0 : Int) := (by omega); have q125 : 0 < (l2.length : Int) := of_decide_eq_true (by first | (with_reducible assumption) | assumption); obtain ⟨ad125, e125, hx125_0⟩ := Kd.at_int HR2.out 0 p125 q125; cases e125; have qi125 : (0 < l2.length) = True := eq_true (by omega); (try rw [show ((0 : Int)).toNat = 0 from rfl] at hx125_0); (try rw [Addr.add_zero'] at hx125_0); replace hx125_0 := (HB.out.cell (World.block_lt_of_cell? w _ hx125_0)).trans hx125_0; replace p125 := eq_true p125; replace q125 := eq_true q125; have p126 : 0 ≤ (1 : Int) := (by omega); have q126 : 1 < (l2.length : Int) := of_decide_eq_true (by first | (with_reducible assumption) | assumption); obtain ⟨ad126, e126, hx126_0⟩ := Kd.at_int HR2.out 1 p126 q126; obtain rfl : ad125 = ad126 := (by injection e126); (try simp only [show (1 : Int).toNat = 1 from rfl, Nat.reduceMul, Nat.reduceEqDiff, Go.Addr.add, ↓reduceIte] at hx126_0); have qi126 : (1 < l2.length) = True := eq_true (by omega); (try rw [show ((1 : Int)).toNat = 1 from rfl] at hx126_0); replace hx126_0 := (HB.out.cell (World.block_lt_of_cell? w _ hx126_0)).trans hx126_0; replace p126 := eq_true p126; replace q126 := eq_true q126))
              go_ret
              exact ⟨by first | rfl | (simp [errW_none, errW_some] <;> rfl) | (simp [*, errW_none, errW_some] <;> rfl), by repeat (first | (with_reducible first | exact HB.out | apply below_alloc | apply pw_below_drewN | apply below_drew1) | exact HB.out)⟩
            · rw [if_neg c10] at H
              exact absurd H (by simp)
          · rw [if_neg c9] at H
            have c9b0 : (t121 == (rd l2 0)) = false := beq_eq_false_iff_ne.mpr c9
            have c9b1 : (t121 != (rd l2 0)) = true := bne_iff_ne.mpr c9
            obtain rfl := Option.some.inj H
            go_enter Tryd.func73, Tryd.ntmps73
            go_wp2_with (first | ((with_reducible refine gate_callee (f := 47) rfl ?_); refine goesL_ (some 14) rfl rfl Tryd.func47 (by kernel_rfl) rfl #[.slice A0 l0.length c0, .int .i64 0, .int .i64 a1, .int .i64 0] rfl (by (try simp only [List.map_toArray, List.map_cons, List.map_nil]); first | done | rfl | (simp only [List.length_drop, List.length_take]; rfl)) ?_; (with_reducible refine (devices_Current.calls _ _ l0 0 a1 0 t121 t122 true t124 _ ?side1 ?side2 A4.out).mono ?_); (case side1 => repeat (first | exact HR0.out | (with_reducible refine Kd.C_alloc ?_ _) | (with_reducible refine Kd.C_drewN ?_ _) | (with_reducible refine Kd.C_drew ?_))); (case side2 => exact HC0.out); rintro e w12 ⟨rfl, hb⟩; refine ⟨_, rfl, ?_⟩; have n0_ := Aside0.mk (below_step (by repeat (first | (with_reducible first | exact HB.out | apply below_alloc | apply pw_below_drewN | apply below_drew1) | exact HB.out)) hb); clear HB; have HB := n0_; clear n0_; (try clear hb); (try clear hb2); (try clear hk); (try clear hi); have p125 : 0 ≤ (0 : Int) := (by omega); have q125 : 0 < (l2.length : Int) := of_decide_eq_true (by first | (with_reducible assumption) | assumption); obtain ⟨ad125, e125, hx125_0⟩ := Kd.at_int HR2.out 0 p125 q125; cases e125; have qi125 : (0 < l2.length) = True := eq_true (by omega); (try rw [show ((0 : Int)).toNat = 0 from rfl] at hx125_0); (try rw [Addr.add_zero'] at hx125_0); replace hx125_0 := (HB.out.cell (World.block_lt_of_cell? w _ hx125_0)).trans hx125_0; replace p125 := eq_true p125; replace q125 := eq_true q125))
            go_ret
            exact ⟨by first | rfl | (simp [errW_none, errW_some] <;> rfl) | (simp [*, errW_none, errW_some] <;> rfl), by repeat (first | (with_reducible first | exact HB.out | apply below_alloc | apply pw_below_drewN | apply below_drew1) | exact HB.out)⟩
        · rw [if_neg c8] at H
          exact absurd H (by simp)
      · replace c7 := Bool.eq_false_iff.mpr c7
        subst c7
        have H1 : (if t121 = 0 then (if t122 = 0 then (some true) else (some false)) else (some false)) = some r := by rw [if_neg (show ¬ (false = true) by decide)] at H; exact H
        clear H
        have H := H1
        clear H1
        by_cases c13 : t121 = 0
        · rw [if_pos c13] at H
          have c13b0 : (t121 == 0) = true := beq_iff_eq.mpr c13
          have c13b1 : (t121 != 0) = false := bne_eq_false_iff_eq.mpr c13
          clear c13
          by_cases c14 : t122 = 0
          · rw [if_pos c14] at H
            have c14b0 : (t122 == 0) = true := beq_iff_eq.mpr c14
            have c14b1 : (t122 != 0) = false := bne_eq_false_iff_eq.mpr c14
            clear c14
            obtain rfl := Option.some.inj H
            go_enter Tryd.func73, Tryd.ntmps73
            go_wp2_with (first | ((with_reducible refine gate_callee (f := 47) rfl ?_); refine goesL_ (some 14) rfl rfl Tryd.func47 (by kernel_rfl) rfl #[.slice A0 l0.length c0, .int .i64 0, .int .i64 a1, .int .i64 0] rfl (by (try simp only [List.map_toArray, List.map_cons, List.map_nil]); first | done | rfl | (simp only [List.length_drop, List.length_take]; rfl)) ?_; (with_reducible refine (devices_Current.calls _ _ l0 0 a1 0 t121 t122 false t124 _ ?side1 ?side2 A4.out).mono ?_); (case side1 => repeat (first | exact HR0.out | (with_reducible refine Kd.C_alloc ?_ _) | (with_reducible refine Kd.C_drewN ?_ _) | (with_reducible refine Kd.C_drew ?_))); (case side2 => exact HC0.out); rintro e w15 ⟨rfl, hb⟩; refine ⟨_, rfl, ?_⟩; have n0_ := Aside0.mk (below_step (by repeat (first | (with_reducible first | exact HB.out | apply below_alloc | apply pw_below_drewN | apply below_drew1) | exact HB.out)) hb); clear HB; have HB := n0_; clear n0_; (try clear hb); (try clear hb2); (try clear hk); (try clear hi)))
            go_ret
            exact ⟨by first | rfl | (simp [errW_none, errW_some] <;> rfl) | (simp [*, errW_none, errW_some] <;> rfl), by repeat (first | (with_reducible first | exact HB.out | apply below_alloc | apply pw_below_drewN | apply below_drew1) | exact HB.out)⟩
          · rw [if_neg c14] at H
            have c14b0 : (t122 == 0) = false := beq_eq_false_iff_ne.mpr c14
            have c14b1 : (t122 != 0) = true := bne_iff_ne.mpr c14
            obtain rfl := Option.some.inj H
            go_enter Tryd.func73, Tryd.ntmps73
            go_wp2_with (first | ((with_reducible refine gate_callee (f := 47) rfl ?_); refine goesL_ (some 14) rfl rfl Tryd.func47 (by kernel_rfl) rfl #[.slice A0 l0.length c0, .int .i64 0, .int .i64 a1, .int .i64 0] rfl (by (try simp only [List.map_toArray, List.map_cons, List.map_nil]); first | done | rfl | (simp only [List.length_drop, List.length_take]; rfl)) ?_; (with_reducible refine (devices_Current.calls _ _ l0 0 a1 0 t121 t122 false t124 _ ?side1 ?side2 A4.out).mono ?_); (case side1 => repeat (first | exact HR0.out | (with_reducible refine Kd.C_alloc ?_ _) | (with_reducible refine Kd.C_drewN ?_ _) | (with_reducible refine Kd.C_drew ?_))); (case side2 => exact HC0.out); rintro e w16 ⟨rfl, hb⟩; refine ⟨_, rfl, ?_⟩; have n0_ := Aside0.mk (below_step (by repeat (first | (with_reducible first | exact HB.out | apply below_alloc | apply pw_below_drewN | apply below_drew1) | exact HB.out)) hb); clear HB; have HB := n0_; clear n0_; (try clear hb); (try clear hb2); (try clear hk); (try clear hi)))
            go_ret
            exact ⟨by first | rfl | (simp [errW_none, errW_some] <;> rfl) | (simp [*, errW_none, errW_some] <;> rfl), by repeat (first | (with_reducible first | exact HB.out | apply below_alloc | apply pw_below_drewN | apply below_drew1) | exact HB.out)⟩
        · rw [if_neg c13] at H
          have c13b0 : (t121 == 0) = false := beq_eq_false_iff_ne.mpr c13
          have c13b1 : (t121 != 0) = true := bne_iff_ne.mpr c13
          obtain rfl := Option.some.inj H
          go_enter Tryd.func73, Tryd.ntmps73
          go_wp2_with (first | ((with_reducible refine gate_callee (f := 47) rfl ?_); refine goesL_ (some 14) rfl rfl Tryd.func47 (by kernel_rfl) rfl #[.slice A0 l0.length c0, .int .i64 0, .int .i64 a1, .int .i64 0] rfl (by (try simp only [List.map_toArray, List.map_cons, List.map_nil]); first | done | rfl | (simp only [List.length_drop, List.length_take]; rfl)) ?_; (with_reducible refine (devices_Current.calls _ _ l0 0 a1 0 t121 t122 false t124 _ ?side1 ?side2 A4.out).mono ?_); (case side1 => repeat (first | exact HR0.out | (with_reducible refine Kd.C_alloc ?_ _) | (with_reducible refine Kd.C_drewN ?_ _) | (with_reducible refine Kd.C_drew ?_))); (case side2 => exact HC0.out); rintro e w17 ⟨rfl, hb⟩; refine ⟨_, rfl, ?_⟩; have n0_ := Aside0.mk (below_step (by repeat (first | (with_reducible first | exact HB.out | apply below_alloc | apply pw_below_drewN | apply below_drew1) | exact HB.out)) hb); clear HB; have HB := n0_; clear n0_; (try clear hb); (try clear hb2); (try clear hk); (try clear hi)))
          go_ret
          exact ⟨by first | rfl | (simp [errW_none, errW_some] <;> rfl) | (simp [*, errW_none, errW_some] <;> rfl), by repeat (first | (with_reducible first | exact HB.out | apply below_alloc | apply pw_below_drewN | apply below_drew1) | exact HB.out)⟩
    · rw [if_neg c6] at H
      have c6b0 : (t123 == ((l2.length : Int) == 2)) = false := by simpa using c6
      (try (have c6b1 : decide (t123 = ((l2.length : Int) == 2)) = false := by simpa using c6))
      (try (have c6b2 : (t123 == ((l2.length : Int) == 2)) = false := by simpa using c6))
      (try (have c6b3 : ¬ (t123 = ((l2.length : Int) == 2)) := by simpa using c6))
      clear c6
      obtain rfl := Option.some.inj H
      go_enter Tryd.func73, Tryd.ntmps73
      go_wp2_with (first | ((with_reducible refine gate_callee (f := 47) rfl ?_); refine goesL_ (some 14) rfl rfl Tryd.func47 (by kernel_rfl) rfl #[.slice A0 l0.length c0, .int .i64 0, .int .i64 a1, .int .i64 0] rfl (by (try simp only [List.map_toArray, List.map_cons, List.map_nil]); first | done | rfl | (simp only [List.length_drop, List.length_take]; rfl)) ?_; (with_reducible refine (devices_Current.calls _ _ l0 0 a1 0 t121 t122 t123 t124 _ ?side1 ?side2 A4.out).mono ?_); (case side1 => repeat (first | exact HR0.out | (with_reducible refine Kd.C_alloc ?_ _) | (with_reducible refine Kd.C_drewN ?_ _) | (with_reducible refine Kd.C_drew ?_))); (case side2 => exact HC0.out); rintro e w18 ⟨rfl, hb⟩; refine ⟨_, rfl, ?_⟩; have n0_ := Aside0.mk (below_step (by repeat (first | (with_reducible first | exact HB.out | apply below_alloc | apply pw_below_drewN | apply below_drew1) | exact HB.out)) hb); clear HB; have HB := n0_; clear n0_; (try clear hb); (try clear hb2); (try clear hk); (try clear hi)))
      go_ret
      exact ⟨by first | rfl | (simp [errW_none, errW_some] <;> rfl) | (simp [*, errW_none, errW_some] <;> rfl), by repeat (first | (with_reducible first | exact HB.out | apply below_alloc | apply pw_below_drewN | apply below_drew1) | exact HB.out)⟩
  · rw [if_neg c5] at H
    have c5b0 : (t124 == 0) = false := beq_eq_false_iff_ne.mpr c5
    have c5b1 : (t124 != 0) = true := bne_iff_ne.mpr c5
    obtain rfl := Option.some.inj H
    go_enter Tryd.func73, Tryd.ntmps73
    go_wp2_with (first | ((with_reducible refine gate_callee (f := 47) rfl ?_); refine goesL_ (some 14) rfl rfl Tryd.func47 (by kernel_rfl) rfl #[.slice A0 l0.length c0, .int .i64 0, .int .i64 a1, .int .i64 0] rfl (by (try simp only [List.map_toArray, List.map_cons, List.map_nil]); first | done | rfl | (simp only [List.length_drop, List.length_take]; rfl)) ?_; (with_reducible refine (devices_Current.calls _ _ l0 0 a1 0 t121 t122 t123 t124 _ ?side1 ?side2 A4.out).mono ?_); (case side1 => repeat (first | exact HR0.out | (with_reducible refine Kd.C_alloc ?_ _) | (with_reducible refine Kd.C_drewN ?_ _) | (with_reducible refine Kd.C_drew ?_))); (case side2 => exact HC0.out); rintro e w19 ⟨rfl, hb⟩; refine ⟨_, rfl, ?_⟩; have n0_ := Aside0.mk (below_step (by repeat (first | (with_reducible first | exact HB.out | apply below_alloc | apply pw_below_drewN | apply below_drew1) | exact HB.out)) hb); clear HB; have HB := n0_; clear n0_; (try clear hb); (try clear hb2); (try clear hk); (try clear hi)))
    go_ret
    exact ⟨by first | rfl | (simp [errW_none, errW_some] <;> rfl) | (simp [*, errW_none, errW_some] <;> rfl), by repeat (first | (with_reducible first | exact HB.out | apply below_alloc | apply pw_below_drewN | apply below_drew1) | exact HB.out)⟩
end Go.Proofs.YtjbcfdgnafmbkaaDoor.PBig
end
