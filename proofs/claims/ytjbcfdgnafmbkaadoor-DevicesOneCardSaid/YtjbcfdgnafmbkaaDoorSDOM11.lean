/- Lemmas, walks and printed functions for the claim. -/
import Derived.Test.YtjbcfdgnafmbkaaDoorSDOM9
import Derived.Test.YtjbcfdgnafmbkaaDoorSDOM10
import Derived.BigQuiet
import Derived.Deep.LoopGhost
import Derived.Deep.QuietTactic
import Derived.Laws.BitsAllLaws
import Derived.Laws.BitsLemmas
import Derived.Lib.Hide
import Derived.LoopTactic
import Derived.Outline
import Derived.OwnWalk
import Derived.RangeFuncBox
import Derived.Test.YtjbcfdgnafmbkaaDoorProg
import Derived.WalkKit
section
set_option linter.unusedVariables false
namespace Go.Proofs.YtjbcfdgnafmbkaaDoor.Sha
open Go.RowKit
theorem ret_u32 {a b : Int} (h : a = b) : Ending.returned (.int .u32 a) = .returned (.int .u32 b) := by rw [h]
theorem and31 (n : Nat) (h : n < 18446744073709551616) : bits .and .u64 (n : Int) 31 = ((n % 32 : Nat) : Int) := by
  have := u64_and_nat n 31 h (by decide)
  rw [show (n &&& 31) = n % 32 from Nat.and_two_pow_sub_one_eq_mod n 5] at this
  exact this
set_option maxHeartbeats 400000 in
theorem rotl_c (x n : Nat) (hx : x < 4294967296) (h1 : 1 ≤ n) (h2 : n ≤ 31) (w : World) :
    Calls Tryd.prog 123 #[.int .u32 x, .int .i64 (-(n : Int))] w fun e w' => e = .returned (.int .u32 (ror x n)) ∧ w = w' := by
  have hand : bits .and .u64 (IntKind.u64.wrap (-(n : Int))) 31 = ((32 - n : Nat) : Int) := by
    have := and31 (18446744073709551616 - n) (by omega)
    rw [IntKind.wrap_u64, show (-(n : Int)) % 18446744073709551616 = ((18446744073709551616 - n : Nat) : Int) by omega, this]
    omega
  obtain ⟨m, hm⟩ : ∃ m, m = 32 - n := ⟨_, rfl⟩
  rw [← hm] at hand
  have hm1 : 1 ≤ m := by omega
  have hm2 : m ≤ 31 := by omega
  have HM := Lib.hid hm
  clear hm
  go_enter Tryd.func123, Tryd.ntmps123
  go_wp2
  go_ret
  refine ⟨ret_u32 ?_, rfl⟩
  rw [HM.out]
  have e1 : ((x : Int) * 2 ^ (32 - n) % 4294967296) = ((x * 2 ^ (32 - n) % 4294967296 : Nat) : Int) := by simp
  have e2 : ((x : Int) / 2 ^ (32 - (32 - n))) = ((x / 2 ^ n : Nat) : Int) := by
    rw [show 32 - (32 - n) = n from by omega]; simp
  rw [e1, e2, u32_or_nat _ _ (Nat.mod_lt _ (by decide)) (Nat.lt_of_le_of_lt (Nat.div_le_self _ _) hx), Nat.or_comm]
  rfl
set_option maxHeartbeats 400000 in
theorem rotated_c (x a b c : Nat) (hx : x < 4294967296) (a1 : 1 ≤ a) (a2 : a ≤ 31) (b1 : 1 ≤ b) (b2 : b ≤ 31) (c1 : 1 ≤ c) (c2 : c ≤ 31) (w : World) :
    Calls Tryd.prog 124 #[.int .u32 x, .int .i64 a, .int .i64 b, .int .i64 c] w fun e w' => e = .returned (.int .u32 (ror x a ^^^ ror x b ^^^ ror x c : Nat)) ∧ w = w' := by
  have e1 := u32_xor_nat (ror x a) (ror x b) (ror_lt hx) (ror_lt hx)
  have e2 := u32_xor_nat (ror x a ^^^ ror x b) (ror x c) (xor_lt (ror_lt hx) (ror_lt hx)) (ror_lt hx)
  go_enter Tryd.func124, Tryd.ntmps124
  go_wp2_with fail
  refine (rotl_c x a hx a1 a2 _).mono ?_; rintro e w' ⟨rfl, rfl⟩
  go_wp2_with fail
  refine (rotl_c x b hx b1 b2 _).mono ?_; rintro e w' ⟨rfl, rfl⟩
  go_wp2_with fail
  refine (rotl_c x c hx c1 c2 _).mono ?_; rintro e w' ⟨rfl, rfl⟩
  go_wp2
  go_ret
  exact ⟨rfl, rfl⟩
theorem rotated_S1 (x : Nat) (hx : x < 4294967296) (w : World) :
    Calls Tryd.prog 124 #[.int .u32 x, .int .i64 6, .int .i64 11, .int .i64 25] w fun e w' => e = .returned (.int .u32 (S1 x)) ∧ w = w' :=
  rotated_c x 6 11 25 hx (by decide) (by decide) (by decide) (by decide) (by decide) (by decide) w
theorem rotated_S0 (x : Nat) (hx : x < 4294967296) (w : World) :
    Calls Tryd.prog 124 #[.int .u32 x, .int .i64 2, .int .i64 13, .int .i64 22] w fun e w' => e = .returned (.int .u32 (S0 x)) ∧ w = w' :=
  rotated_c x 2 13 22 hx (by decide) (by decide) (by decide) (by decide) (by decide) (by decide) w
theorem shl8 (n c : Nat) (hn : n < 16777216) (hc : c < 256) : bits .or .u32 ((n : Int) * 256) c = ((n * 256 + c : Nat) : Int) := by
  have := u32_or_nat (n * 256) c (by omega) (by omega)
  rw [show ((n : Int) * 256) = ((n * 256 : Nat) : Int) by simp, this, show n * 256 ||| c = n * 256 + c from by
    rw [show (256 : Nat) = 2 ^ 8 from rfl, Nat.mul_comm, Nat.two_pow_add_eq_or_of_lt hc]]
set_option maxHeartbeats 400000 in
theorem word_c (b off len cap : Nat) (l : List Nat) (o : Nat) (hl : ∀ x ∈ l, x < 256) (w : World) (hlen : 4 ≤ cap) (hcap : cap ≤ 9223372036854775807)
    (hc : ∀ j, j < 4 → w.cell? ⟨b, off + j, none⟩ = some (.int .u8 (l.getD (o + j) 0))) :
    Calls Tryd.prog 122 #[.slice (some ⟨b, off, none⟩) len cap] w fun e w' => e = .returned (.int .u32 (word4 l o)) ∧ w = w' := by
  have g : ∀ i, l.getD i 0 < 256 := fun i => by
    rw [List.getD_eq_getElem?_getD]
    by_cases hi : i < l.length
    · rw [List.getElem?_eq_getElem hi]; exact hl _ (List.getElem_mem hi)
    · rw [List.getElem?_eq_none (by omega)]; decide
  have h0 := hc 0 (by decide)
  have h1 := hc 1 (by decide)
  have h2 := hc 2 (by decide)
  have h3 := hc 3 (by decide)
  have g0 := g o; have g1 := g (o + 1); have g2 := g (o + 2); have g3 := g (o + 3)
  rw [Nat.add_zero] at h0
  have HW : Hid (word4 l o = ((l.getD o 0 * 256 + l.getD (o + 1) 0) * 256 + l.getD (o + 2) 0) * 256 + l.getD (o + 3) 0) := Lib.hid rfl
  generalize l.getD o 0 = x0 at *
  generalize l.getD (o + 1) 0 = x1 at *
  generalize l.getD (o + 2) 0 = x2 at *
  generalize l.getD (o + 3) 0 = x3 at *
  generalize word4 l o = W at *
  have e0 : bits .or .u32 0 (x0 : Int) = x0 := by simpa using shl8 0 x0 (by decide) g0
  obtain ⟨y1, hy1⟩ : ∃ y1, y1 = x0 * 256 + x1 := ⟨_, rfl⟩
  obtain ⟨y2, hy2⟩ : ∃ y2, y2 = y1 * 256 + x2 := ⟨_, rfl⟩
  have y1b : y1 < 65536 := by omega
  have y2b : y2 < 16777216 := by omega
  have e1 : bits .or .u32 ((x0 : Int) * 256) x1 = y1 := by rw [hy1]; exact shl8 x0 x1 (by omega) g1
  have e2 : bits .or .u32 ((y1 : Int) * 256) x2 = y2 := by rw [hy2]; exact shl8 y1 x2 (by omega) g2
  have e3 : bits .or .u32 ((y2 : Int) * 256) x3 = W := by rw [HW.out, ← hy1, ← hy2]; exact shl8 y2 x3 y2b g3
  clear hy1 hy2
  clear g hc hl HW
  go_enter Tryd.func122, Tryd.ntmps122
  go_wp2
  refine wp_loop_rounds 5 ?_; rw [rounds_succ]
  go_wp2
  rw [rounds_succ]
  go_wp2
  rw [rounds_succ]
  go_wp2
  rw [rounds_succ]
  go_wp2
  rw [rounds_succ]
  go_wp2
  go_ret
  exact ⟨rfl, rfl⟩
end Go.Proofs.YtjbcfdgnafmbkaaDoor.Sha
end
section
set_option linter.unusedVariables false
namespace Go.Proofs.YtjbcfdgnafmbkaaDoor.Sha
open Go.RowKit
structure Aside0' (p : Prop) : Prop where mk :: (out : p)
def putTo (ys : List Nat) (e n : Nat) : Nat → List Nat
  | 0 => ys
  | i + 1 => (putTo ys e n i).set (e - 1 - i) (n / 2 ^ (8 * i) % 256)
theorem putTo_length (ys : List Nat) (e n : Nat) : ∀ i, (putTo ys e n i).length = ys.length
  | 0 => rfl
  | i + 1 => by rw [putTo, List.length_set, putTo_length]
set_option maxHeartbeats 400000 in
theorem put_c (B off len cap n : Nat) (t : TypeId) (ys : List Nat) (w : World) (hA : Arr w B t (ints .u8 ys)) (hl : off + len ≤ ys.length) (h8 : len ≤ 8) :
    Calls Tryd.prog 96 #[.slice (some ⟨B, off, none⟩) len cap, .int .u64 n] w fun e w' => e = .returned (.tuple #[]) ∧ Arr w' B t (ints .u8 (putTo ys (off + len) n len)) ∧ w.grownBy w' (some B) := by
  go_enter Tryd.func96, Tryd.ntmps96
  go_wp2
  go_loopw [7] (fun v w' => ∃ i : Nat, i ≤ len ∧ v = .int .i64 i ∧ Arr w' B t (ints .u8 (putTo ys (off + len) n i)) ∧ w.grownBy w' (some B)) (fun v _ => len - (intOf v).toNat)
  case atStart => exact ⟨0, by omega, rfl, hA, grownBy_refl _ _⟩
  case round =>
    obtain ⟨i, hi, rfl, hAi, hg⟩ := hrel
    by_cases hlt : i < len
    · have hlen := putTo_length ys (off + len) n i
      have hc := hAi.cell (ints_get .u8 (putTo ys (off + len) n i) (j := off + (len - 1 - i)) (by omega))
      have hf := hAi.frozen (off + (len - 1 - i))
      have hs := hAi.set (off + (len - 1 - i)) (.int .u8 (n / 2 ^ (8 * i) % 256 : Nat))
      rw [ints_set] at hs
      clear hlen
      have hs2 : Aside0' (Arr (wr.setCell ⟨B, off + (len - 1 - i), none⟩ (.int .u8 ((n : Int) / 2 ^ (8 * i) % 256))) B t (ints .u8 (putTo ys (off + len) n (i + 1)))) := ⟨by
        rw [putTo, show ((n : Int) / 2 ^ (8 * i) % 256) = ((n / 2 ^ (8 * i) % 256 : Nat) : Int) by simp, show off + len - 1 - i = off + (len - 1 - i) from by omega]; exact hs⟩
      clear hs
      go_wp2
      go_roundw
      case rel => exact ⟨i + 1, by omega, by go_num, hs2.out, grownBy_trans hg (grownBy_set _ _ _ _)⟩
      case measure => simp [intOf]; omega
    · have : i = len := by omega
      subst this
      go_wp2
      go_end0
      exact ⟨rfl, hAi, hg⟩
end Go.Proofs.YtjbcfdgnafmbkaaDoor.Sha
end
