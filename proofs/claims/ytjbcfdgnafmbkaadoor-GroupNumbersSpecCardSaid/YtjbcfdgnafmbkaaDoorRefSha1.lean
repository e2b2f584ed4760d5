/- The reference's SHA-256, first part: its small functions. -/
import Derived.Test.YtjbcfdgnafmbkaaDoorShaRefPlain
import Derived.Test.YtjbcfdgnafmbkaaDoorPGroupx2
import Derived.Test.YtjbcfdgnafmbkaaDoorQuietTail
set_option linter.unusedVariables false
namespace Go.Proofs.YtjbcfdgnafmbkaaDoor.Sha
open Go.RowKit Go.Proofs.YtjbcfdgnafmbkaaDoor Go.Proofs.YtjbcfdgnafmbkaaDoorW.PrintWords Go.Proofs.YtjbcfdgnafmbkaaDoor.PGroup Go.Proofs.YtjbcfdgnafmbkaaDoorW.PrintMore
set_option maxHeartbeats 400000 in
theorem rror_c (x n : Nat) (hx : x < 4294967296) (h1 : 1 ≤ n) (h2 : n ≤ 31) (w : World) :
    Calls Tryd.prog 141 #[.int .u32 x, .int .i64 n] w fun e w' => e = .returned (.int .u32 (ror x n)) ∧ ∃ n, w' = w.drewN n := by
  have e1 : IntKind.i64.wrap (32 - (n : Int)) = ((32 - n : Nat) : Int) := by rw [IntKind.wrap_i64]; omega
  obtain ⟨m, hm⟩ : ∃ m, m = 32 - n := ⟨_, rfl⟩
  rw [← hm] at e1
  have HM := Lib.hid hm
  have hm31 : m ≤ 31 := by omega
  have hm1 : 1 ≤ m := by omega
  clear hm
  go_enter Tryd.func141, Tryd.ntmps141
  go_wp2
  go_quiet (fail)
  go_wp2
  go_ret
  refine ⟨ret_u32 ?_, _, rfl⟩
  have e1 : ((x : Int) * 2 ^ (32 - n) % 4294967296) = ((x * 2 ^ (32 - n) % 4294967296 : Nat) : Int) := by simp
  have e2 : ((x : Int) / 2 ^ n) = ((x / 2 ^ n : Nat) : Int) := by simp
  first
    | (rw [HM.out, e1, e2, u32_or_nat _ _ (Nat.lt_of_le_of_lt (Nat.div_le_self _ _) hx) (Nat.mod_lt _ (by decide))]; rfl)
    | (rw [e1, e2, u32_or_nat _ _ (Nat.lt_of_le_of_lt (Nat.div_le_self _ _) hx) (Nat.mod_lt _ (by decide))]; rfl)
theorem or_shift (a b n : Nat) (hb : b < 2 ^ n) : a * 2 ^ n ||| b = a * 2 ^ n + b := by
  rw [Nat.mul_comm, Nat.two_pow_add_eq_or_of_lt hb]
theorem word_f (a b c d : Nat) (ha : a < 256) (hb : b < 256) (hc : c < 256) (hd : d < 256) : signatoryref02_word.f (toI [a, b, c, d]) = some (((((a * 256 + b) * 256 + c) * 256 + d : Nat)) : Int) := by
  have r0 : rd (toI [a, b, c, d]) 0 = (a : Int) := rfl
  have r1 : rd (toI [a, b, c, d]) 1 = (b : Int) := rfl
  have r2 : rd (toI [a, b, c, d]) 2 = (c : Int) := rfl
  have r3 : rd (toI [a, b, c, d]) 3 = (d : Int) := rfl
  have hl : ((toI [a, b, c, d]).length : Int) = 4 := rfl
  unfold signatoryref02_word.f
  rw [hl, if_pos (by omega), if_pos (by omega), if_pos (by omega), if_pos (by omega), r0, r1, r2, r3]
  have q0 : ((a : Int) % 4294967296 * 16777216 % 4294967296) = ((a * 16777216 : Nat) : Int) := by omega
  have q1 : ((b : Int) % 4294967296 * 65536 % 4294967296) = ((b * 65536 : Nat) : Int) := by omega
  have q2 : ((c : Int) % 4294967296 * 256 % 4294967296) = ((c * 256 : Nat) : Int) := by omega
  have q3 : ((d : Int) % 4294967296) = (d : Int) := by omega
  rw [q0, q1, q2, q3, u32_or_nat _ _ (by omega) (by omega)]
  have o1 : a * 16777216 ||| b * 65536 = (a * 256 + b) * 65536 := by
    exact (or_shift a (b * 65536) 24 (by omega)).trans (by omega)
  rw [o1, u32_or_nat _ _ (by omega) (by omega)]
  have o2 : (a * 256 + b) * 65536 ||| c * 256 = ((a * 256 + b) * 256 + c) * 256 := by
    exact (or_shift (a * 256 + b) (c * 256) 16 (by omega)).trans (by omega)
  rw [o2, u32_or_nat _ _ (by omega) (by omega)]
  have o3 : ((a * 256 + b) * 256 + c) * 256 ||| d = ((a * 256 + b) * 256 + c) * 256 + d := by
    exact or_shift ((a * 256 + b) * 256 + c) d 8 (by omega)
  rw [o3]
theorem rword_c (b off cap : Nat) (l : List Nat) (o : Nat) (hl : ∀ x ∈ l, x < 256) (w : World) (hcap : 4 ≤ cap)
    (hc : ∀ j, j < 4 → w.cell? ⟨b, off + j, none⟩ = some (.int .u8 (l.getD (o + j) 0 : Nat))) :
    Calls Tryd.prog 140 #[.slice (some ⟨b, off, none⟩) 4 cap] w fun e w' => e = .returned (.int .u32 (word4 l o : Nat)) ∧ ∃ n, w' = w.drewN n := by
  have g := fun i => getD_lt hl i
  have hC : Kd.C (Kd.int .u8) w (some ⟨b, off, none⟩) (toI [l.getD o 0, l.getD (o + 1) 0, l.getD (o + 2) 0, l.getD (o + 3) 0]).length (toI [l.getD o 0, l.getD (o + 1) 0, l.getD (o + 2) 0, l.getD (o + 3) 0]) := by
    refine ⟨rfl, by show 4 ≤ _; decide, fun _ => ⟨_, rfl, fun j p hj => ?_⟩⟩
    have hjl : j < 4 := by have := (List.getElem?_eq_some_iff.1 hj).1; simpa [toI] using this
    refine ⟨[.int .u8 p], rfl, rfl, fun i u hu => ?_⟩
    have hp : p = (l.getD (o + j) 0 : Nat) := by
      match j, hjl, hj with
      | 0, _, hj => exact (Option.some.inj hj).symm
      | 1, _, hj => exact (Option.some.inj hj).symm
      | 2, _, hj => exact (Option.some.inj hj).symm
      | 3, _, hj => exact (Option.some.inj hj).symm
    match i, hu with
    | 0, hu =>
      cases hu
      show w.cell? ((⟨b, off, none⟩ : Addr).add (j * 1 + 0)) = _
      rw [Nat.mul_one, Nat.add_zero, show (⟨b, off, none⟩ : Addr).add j = ⟨b, off + j, none⟩ from by unfold Addr.add; split <;> simp_all, hc j hjl, hp]
  exact (signatoryref02_word.calls (some ⟨b, off, none⟩) cap _ _ w hC (by show 4 ≤ cap; exact hcap) (word_f _ _ _ _ (g o) (g (o + 1)) (g (o + 2)) (g (o + 3)))).mono fun e w' ⟨h1, h2⟩ => ⟨h1, h2.out⟩
theorem be8_get2 (n : Nat) : toI (be8 n) = [((n / 2 ^ 56 % 256 : Nat) : Int), ((n / 2 ^ 48 % 256 : Nat) : Int), ((n / 2 ^ 40 % 256 : Nat) : Int), ((n / 2 ^ 32 % 256 : Nat) : Int), ((n / 2 ^ 24 % 256 : Nat) : Int), ((n / 2 ^ 16 % 256 : Nat) : Int), ((n / 2 ^ 8 % 256 : Nat) : Int), ((n % 256 : Nat) : Int)] := rfl
theorem l1_step (k : Nat) (x : List Int) (n i : Nat) (hi : i ≤ 7) (hx : x.length < 140737488355328) :
    signatoryref02_padded.l1 (k + 1) x n (i : Int) = signatoryref02_padded.l1 k (x ++ [((n / 2 ^ (8 * i) % 256 : Nat) : Int)]) n ((i : Int) - 1) := by
  have e1 : wrap64 (8 * (i : Int)) = ((8 * i : Nat) : Int) := by unfold wrap64; omega
  have e2 : wrap64 ((i : Int) - 1) = (i : Int) - 1 := by unfold wrap64; omega
  have e3 : shr .u64 (n : Int) ((8 * i : Nat) : Int) % 256 = ((n / 2 ^ (8 * i) % 256 : Nat) : Int) := by
    unfold shr
    rw [show min ((8 * i : Nat) : Int).toNat (IntKind.u64.bits) = 8 * i from by
      have : IntKind.u64.bits = 64 := rfl
      rw [this]; omega]
    simp
  rw [signatoryref02_padded.l1, if_pos (by omega), e1, if_pos (by omega), if_pos hx, e2, e3]
theorem l1_all (k : Nat) (x : List Int) (n : Nat) (hx : x.length + 8 < 140737488355328) : signatoryref02_padded.l1 (k + 9) x n 7 = some (x ++ toI (be8 n)) := by
  have s := l1_step (k + 8) x n 7 (by omega) (by omega)
  rw [show ((7 : Nat) : Int) = 7 from rfl] at s
  rw [s]
  have s := l1_step (k + 7) (x ++ [((n / 2 ^ (8 * 7) % 256 : Nat) : Int)]) n 6 (by omega) (by simp; omega)
  rw [show ((7 : Int) - 1) = ((6 : Nat) : Int) from rfl, s]
  have s := l1_step (k + 6) (x ++ [((n / 2 ^ (8 * 7) % 256 : Nat) : Int)] ++ [((n / 2 ^ (8 * 6) % 256 : Nat) : Int)]) n 5 (by omega) (by simp; omega)
  rw [show (((6 : Nat) : Int) - 1) = ((5 : Nat) : Int) from rfl, s]
  rw [show (((5 : Nat) : Int) - 1) = ((4 : Nat) : Int) from rfl, l1_step (k + 5) _ n 4 (by omega) (by simp; omega)]
  rw [show (((4 : Nat) : Int) - 1) = ((3 : Nat) : Int) from rfl, l1_step (k + 4) _ n 3 (by omega) (by simp; omega)]
  rw [show (((3 : Nat) : Int) - 1) = ((2 : Nat) : Int) from rfl, l1_step (k + 3) _ n 2 (by omega) (by simp; omega)]
  rw [show (((2 : Nat) : Int) - 1) = ((1 : Nat) : Int) from rfl, l1_step (k + 2) _ n 1 (by omega) (by simp; omega)]
  rw [show (((1 : Nat) : Int) - 1) = ((0 : Nat) : Int) from rfl, l1_step (k + 1) _ n 0 (by omega) (by simp; omega)]
  rw [signatoryref02_padded.l1, if_neg (by omega), be8_get2]
  simp
theorem l0_all (x0 : List Int) (h0 : x0.length ≤ 1125899906842624) : ∀ (z k : Nat) (x : List Int), (x.length + z) % 64 = 56 → (∀ j, j < z → (x.length + j) % 64 ≠ 56) → x.length + z + 8 < 140737488355328 →
    signatoryref02_padded.l0 (k + z + 10) x0 x = some (x ++ List.replicate z 0 ++ toI (be8 (x0.length * 8)))
  | 0, k, x, h1, h2, h3 => by
    have e : IntKind.u64.wrap (IntKind.u64.wrap (x0.length : Int) * 8) = ((x0.length * 8 : Nat) : Int) := by rw [IntKind.wrap_u64, IntKind.wrap_u64]; omega
    rw [show k + 0 + 10 = (k + 9) + 1 from by omega, signatoryref02_padded.l0, if_pos (by omega), e, l1_all k x _ (by omega)]
    simp
  | z + 1, k, x, h1, h2, h3 => by
    have hz := h2 0 (by omega)
    rw [show k + (z + 1) + 10 = (k + z + 10) + 1 from by omega, signatoryref02_padded.l0, if_neg (by omega), if_pos (by omega),
      l0_all x0 h0 z k (x ++ [0]) (by simp; omega) (fun j hj => by have := h2 (j + 1) (by omega); simp; omega) (by simp; omega)]
    rw [List.replicate_succ]
    simp
theorem padded_f (l : List Nat) (h0 : l.length ≤ 35184372088832) : ∃ k, signatoryref02_padded.f k (toI l) = some (toI (padL l)) := by
  have hl : (toI l).length = l.length := toI_length l
  have := l0_all (toI l) (by omega) ((if l.length % 64 ≤ 55 then 55 else 119) - l.length % 64) 0 ([] ++ toI l ++ [128]) (by simp [hl]; split <;> omega) (fun j hj => by simp [hl]; revert hj; split <;> intro hj <;> omega) (by simp [hl]; split <;> omega)
  refine ⟨0 + ((if l.length % 64 ≤ 55 then 55 else 119) - l.length % 64) + 10, ?_⟩
  unfold signatoryref02_padded.f
  simp only [Option.bind_some]
  rw [if_pos (by simp [hl]; omega), if_pos (by simp [hl]; omega), this]
  unfold padL
  simp only [toI_append, List.nil_append, hl]
  congr 2
  simp [toI]
set_option maxHeartbeats 1000000 in
set_option maxRecDepth 100000 in
theorem rnumbers_c (w : World) : Calls Tryd.prog 142 #[] w fun e w' => e = .returned (.agg (ints .u32 K).toArray) ∧ w.grownBy w' none := by
  go_enter Tryd.func142, Tryd.ntmps142
  have hvz : (Tryd.prog.info? 172).map (·.size) = some (ints .u32 K).toArray.size := by kernel_rfl
  have hvo : (ints .u32 K).toArray.all (·.oneCell') = true := by kernel_rfl
  have hv32 : (ints .u32 (List.replicate 64 0)).toArray.size = (ints .u32 K).toArray.size := by kernel_rfl
  have hset := setRow_heap (w.alloc (.cells (ints .u32 (List.replicate 64 0)).toArray 172)) w.heap.size (ints .u32 (List.replicate 64 0)).toArray (ints .u32 K).toArray 172 (0, 0) (Arr.new w 172 (ints .u32 (List.replicate 64 0)))
  have hgf := grown_below (grown_alloc (grownBy_refl w none) (.cells (ints .u32 (List.replicate 64 0)).toArray 172)) (below_setRow (Below.refl w.heap.size _) (Nat.le_refl _) (ints .u32 K).toArray) (Nat.le_refl _)
  go_wp2_with (refine wpList_store_row rfl 172 (.tmp 0) (.tmp 1) rfl w.heap.size (ints .u32 K).toArray rfl rfl 172 (ints .u32 (List.replicate 64 0)).toArray (Arr.new w 172 (ints .u32 (List.replicate 64 0))) hvz hv32 hvo ?_)
  exact bodyPost_ret (v := .agg (ints .u32 K).toArray) (results_cell_row rfl _ _ w.heap.size 172 (ints .u32 K).toArray (0, 0) (.array 64 132) rfl hset (by kernel_rfl) rfl hvz) rfl ⟨rfl, hgf⟩
end Go.Proofs.YtjbcfdgnafmbkaaDoor.Sha
