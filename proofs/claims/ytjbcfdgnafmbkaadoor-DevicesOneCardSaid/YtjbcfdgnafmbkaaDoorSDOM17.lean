/- Lemmas, walks and printed functions for the claim. -/
import Derived.Test.YtjbcfdgnafmbkaaDoorSDOM1
import Derived.Laws.CopyRow
import Derived.Lib.AppendZerosOnto
import Derived.Lib.Overlaps
import Derived.Shelf.Spec.SlicesInsert
section
set_option linter.unusedVariables false
namespace Go.Proofs.YtjbcfdgnafmbkaaDoor.Ins
open Go.RowKit Go.Lib Go.Proofs.YtjbcfdgnafmbkaaDoorW.PrintWords
variable {P : Program}
theorem run_copy_rowK (w : World) (dT sT ty elem : TypeId) (size : Nat) (g o dLen dCap : Nat) (a : Addr) (sLen sCap : Nat) (cur : Array Value) (t : TypeId) (cs : List Value)
    (hu : P.underlying dT = some (.slice elem)) (hs : (P.info? elem).map (·.size) = some size)
    (hg : w.heap[g]? = some (.cells cur t (0, 0))) (hn : cs.length = Nat.min sLen dLen * size)
    (hsrc : ∀ j v, cs[j]? = some v → w.cell? (a.add j) = some v) (hfit : o + cs.length ≤ cur.size) (h1 : ∀ v ∈ cs, v.oneCell' = true) :
    (Builtin.copy_ #[dT, sT] ty #[.slice (some ⟨g, o, none⟩) dLen dCap, .slice (some a) sLen sCap]).run P w =
      .ok (goInt (Nat.min sLen dLen)) (w.setRow g (cur.toList.take o ++ cs ++ cur.toList.drop (o + cs.length)).toArray) := by
  have hl := run_loadCells_list (P := P) w a cs hsrc
  have hst := run_storeCells_at P g o t cs 0 cur w hg (by simpa using hfit) h1
  cases hq : P.info? elem with
  | none => simp [hq] at hs
  | some i =>
    have hi : i.size = size := by simpa [hq] using hs
    simp [Builtin.copy_, run_underlying hu, Builtin.lenOf, Builtin.firstCells, sizeOf, typeInfo, hq, hi, ← hn, hl, hst]
theorem splice_in {α : Type} (L ys : List α) (a s m : Nat) (ha : a ≤ m) (hm : m + s ≤ L.length) (hy : ys.length = s) :
    let c1 := L.take (a + s) ++ (L.take m).drop a ++ L.drop (a + s + (m - a))
    let c2 := c1.take a ++ ys ++ c1.drop (a + s)
    c1.length = L.length ∧ c2.length = L.length ∧ c2.take (m + s) = (L.take m).take a ++ ys ++ (L.take m).drop a := by
  intro c1 c2
  have h1 : c1.length = L.length := by simp only [c1, List.length_append, List.length_take, List.length_drop]; omega
  have e1 : c1.take a = (L.take m).take a := by
    simp only [c1]
    rw [List.append_assoc, List.take_append_of_le_length (by rw [List.length_take]; omega), List.take_take, List.take_take]
    congr 1; omega
  have e2 : c1.drop (a + s) = (L.take m).drop a ++ L.drop (a + s + (m - a)) := by
    simp only [c1]
    rw [List.append_assoc]
    exact List.drop_left' (by rw [List.length_take]; omega)
  refine ⟨h1, ?_, ?_⟩
  · simp only [c2, List.length_append, List.length_take, List.length_drop]; omega
  · simp only [c2]
    rw [e1, e2, ← List.append_assoc]
    exact List.take_left' (by simp only [List.length_append, List.length_take, List.length_drop]; omega)
theorem splice_new {α : Type} (R xs ys : List α) (a s m : Nat) (ha : a ≤ m) (hx : xs.length = m) (hm : m + s ≤ R.length) (hy : ys.length = s) (hR : R.take a = xs.take a) :
    let c1 := R.take a ++ ys ++ R.drop (a + s)
    let c2 := c1.take (a + s) ++ xs.drop a ++ c1.drop (a + s + (m - a))
    c1.length = R.length ∧ c2.length = R.length ∧ c2.take (m + s) = xs.take a ++ ys ++ xs.drop a := by
  intro c1 c2
  have h1 : c1.length = R.length := by simp only [c1, List.length_append, List.length_take, List.length_drop]; omega
  have e1 : c1.take (a + s) = R.take a ++ ys := by
    simp only [c1]
    exact List.take_left' (by rw [List.length_append, List.length_take]; omega)
  refine ⟨h1, ?_, ?_⟩
  · simp only [c2, List.length_append, List.length_take, List.length_drop]; omega
  · simp only [c2]
    rw [e1, hR]
    exact List.take_left' (by simp only [List.length_append, List.length_take, List.length_drop]; omega)
end Go.Proofs.YtjbcfdgnafmbkaaDoor.Ins
end
