/- digest.put: the bytes of a number, written into a row. -/
import Derived.Test.YtjbcfdgnafmbkaaDoorSha1
import Derived.Test.YtjbcfdgnafmbkaaDoorArr
set_option linter.unusedVariables false
namespace Go.Proofs.YtjbcfdgnafmbkaaDoor.Sha
open Go.RowKit
structure Aside0' (p : Prop) : Prop where mk :: (out : p)
/-- The first i bytes are written, from the end. -/
def putTo (ys : List Nat) (e n : Nat) : Nat → List Nat
  | 0 => ys
  | i + 1 => (putTo ys e n i).set (e - 1 - i) (n / 2 ^ (8 * i) % 256)
theorem putTo_length (ys : List Nat) (e n : Nat) : ∀ i, (putTo ys e n i).length = ys.length
  | 0 => rfl
  | i + 1 => by rw [putTo, List.length_set, putTo_length]
theorem shr_u8 (n i : Nat) : IntKind.u8.wrap ((n : Int) / 2 ^ (8 * i)) = ((n / 2 ^ (8 * i) % 256 : Nat) : Int) := by
  rw [IntKind.wrap_u8]; simp
set_option maxHeartbeats 400000 in
theorem put_c (B off len cap n : Nat) (t : TypeId) (ys : List Nat) (w : World) (hA : Arr w B t (ints .u8 ys)) (hl : off + len ≤ ys.length) (h8 : len ≤ 8) :
    Calls Tryd.prog 96 #[.slice (some ⟨B, off, none⟩) len cap, .int .u64 n] w fun e w' => e = .returned (.tuple #[]) ∧ Arr w' B t (ints .u8 (putTo ys (off + len) n len)) ∧ w.grownBy w' (some B) := by
  go_enter Tryd.func96, Tryd.ntmps96
  go_wp2
  go_loopw [7] (fun v w' => ∃ i : Nat, i ≤ len ∧ v = .int .i64 i ∧ Arr w' B t (ints .u8 (putTo ys (off + len) n i)) ∧ w.grownBy w' (some B)) (fun v _ => len - (intOf v).toNat)
  case atStart => exact ⟨0, by omega, rfl, hA, grownBy_refl _ _⟩
  case round =>
    obtain ⟨i, hi, rfl, hAi, hg⟩ := hrel
    by_cases hlt : i < len
    · have hlen := putTo_length ys (off + len) n i
      have hc := hAi.cell (ints_get .u8 (putTo ys (off + len) n i) (j := off + (len - 1 - i)) (by omega))
      have hf := hAi.frozen (off + (len - 1 - i))
      have hs := hAi.set (off + (len - 1 - i)) (.int .u8 (n / 2 ^ (8 * i) % 256 : Nat))
      rw [ints_set] at hs
      clear hlen
      have hs2 : Aside0' (Arr (wr.setCell ⟨B, off + (len - 1 - i), none⟩ (.int .u8 ((n : Int) / 2 ^ (8 * i) % 256))) B t (ints .u8 (putTo ys (off + len) n (i + 1)))) := ⟨by
        rw [putTo, show ((n : Int) / 2 ^ (8 * i) % 256) = ((n / 2 ^ (8 * i) % 256 : Nat) : Int) by simp, show off + len - 1 - i = off + (len - 1 - i) from by omega]; exact hs⟩
      clear hs
      go_wp2
      go_roundw
      case rel => exact ⟨i + 1, by omega, by go_num, hs2.out, grownBy_trans hg (grownBy_set _ _ _ _)⟩
      case measure => simp [intOf]; omega
    · have : i = len := by omega
      subst this
      go_wp2
      go_end0
      exact ⟨rfl, hAi, hg⟩
end Go.Proofs.YtjbcfdgnafmbkaaDoor.Sha
