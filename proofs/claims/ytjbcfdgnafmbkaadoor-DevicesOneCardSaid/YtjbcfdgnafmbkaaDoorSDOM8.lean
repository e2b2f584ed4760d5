/- Lemmas, walks and printed functions for the claim. -/
import Derived.Lib.Hide
import Derived.Maps.Own
import Derived.Maps.OwnSet
import Derived.Maps.Views
import Derived.Test.YtjbcfdgnafmbkaaDoorProg
import Derived.WalkKit
section
set_option linter.unusedVariables false
namespace Go.Proofs.YtjbcfdgnafmbkaaDoor.Bm
open Go.RowKit
def kl (a : Int) : Lit := .int .i64 a
def bl (b : Bool) : DataW Unit := .lit (.bool b)
def BM (w : World) (b n : Nat) (U : Int → Bool) : Prop := ∃ D : DataW Unit, w.ownsMap Tryd.prog 3 (plainElem Tryd.prog 4) b n D ∧ ∀ a, (kl a).wf = true → D.atKey (kl a) (bl false) = bl (U a)
theorem K3 : Maps.Keyed Tryd.prog 3 := Maps.int_keyed Tryd.underlying3
theorem key3 {a : Int} (h : (kl a).wf = true) : keyOf Tryd.prog 3 (.int .i64 a) = some (kl a) := Maps.keyOf_int_mk Tryd.underlying3 h
theorem BM.made (w : World) : BM (w.alloc (.map #[] 0)) w.heap.size 0 (fun _ => false) :=
  ⟨.map [], World.ownsMap_made w _ _ _, fun a _ => rfl⟩
theorem BM.lt {w : World} {b n : Nat} {U : Int → Bool} (h : BM w b n U) : b < w.heap.size := h.elim fun _ h => h.1.lt
theorem BM.kept {w w' : World} {b n : Nat} {U : Int → Bool} (h : BM w b n U) {row : Option Nat} (hg : w.grownBy w' row) (hne : some b ≠ row) : BM w' b n U := h.elim fun D h => ⟨D, h.1.kept hg hne, h.2⟩
theorem BM.below {w w' : World} {b n : Nat} {U : Int → Bool} (h : BM w b n U) (hb : Below w.heap.size w w') : BM w' b n U := by
  have hlt := h.lt
  obtain ⟨D, ⟨es, clock, h1, F, hs, hD⟩, h2⟩ := h
  exact ⟨D, ⟨es, clock, (hb.block b hlt).trans h1, F, hs, hD⟩, h2⟩
theorem BM.setCell {w : World} {b n : Nat} {U : Int → Bool} (h : BM w b n U) {p : Addr} (hp : b ≠ p.block) (u : Value) : BM (w.setCell p u) b n U := h.elim fun D h => ⟨D, h.1.setCell hp u, h.2⟩
theorem zero4 (w : World) : (zeroValue 4).run Tryd.prog w = .ok (.bool false) w := by kernel_rfl
theorem BM.lookup {w : World} {b n : Nat} {U : Int → Bool} (h : BM w b n U) (t : TypeId) (ht : Tryd.prog.underlying t = some (.map 3 4)) (a : Int) (ha : (kl a).wf = true) :
    (Instr.lookup t (.map (some b)) (.int .i64 a) false).run Tryd.prog w = .ok (.bool (U a)) w := by
  obtain ⟨D, h, hU⟩ := h
  obtain ⟨v, ps, hrun, hv⟩ := h.lookup K3 ht (zero4 w) (plainElem_bool Tryd.underlying4 false) (key3 ha)
  have hv := hv.trans (congrArg (fun x => some (x, ps)) (hU a ha))
  cases v <;> simp [plainElem, Tryd.underlying4, bl] at hv
  rw [hrun, hv.1]
theorem put_in {ops : Array Oper} {rest : List Oper} {o : Oper} {a : Act} {Q : Exit → Act → World → Prop} {w : World} {b n : Nat} {U : Int → Bool} (h : BM w b n U) (hg : o.guard = none) (m x v : Operand) (t : TypeId) (hop : o.op = Op.mapUpdate t m x v)
    (ht : Tryd.prog.underlying t = some (.map 3 4)) (hn : n < maxLen) (k : Int) (hk : (kl k).wf = true) (y : Bool) (hm : a.eval m = .map (some b)) (hx : a.eval x = .int .i64 k) (hv : a.eval v = .bool y)
    (hK : ∀ w', BM w' b (n + 1) (fun j => if j = k then y else U j) → w.grownBy w' (some b) → wpList Tryd.prog ops Q rest (a.put o.dst undef) w') : wpList Tryd.prog ops Q (o :: rest) a w := by
  obtain ⟨D, h, hU⟩ := h
  refine wpList_mapUpdate_own w hg m x v t hop 3 4 K3 ht (plainElem Tryd.prog 4) b n D hm h hn (.int .i64 k) (.bool y) (kl k) hx hv (key3 hk) (bl y) [] (plainElem_bool Tryd.underlying4 y) ?_
  intro w' h' hg'
  refine hK w' ⟨D.put (kl k) (bl y), h', fun j hj => ?_⟩ hg'
  by_cases e : j = k
  · subst e
    show _ = bl (if j = j then y else U j)
    rw [if_pos rfl]
    exact Maps.atKey_put_same h.isMap (by simp [kl]; trivial) _ _
  · show _ = bl (if j = k then y else U j)
    rw [if_neg e, Maps.atKey_put_other (by simp [kl]; exact e)]
    exact hU j hj
end Go.Proofs.YtjbcfdgnafmbkaaDoor.Bm
end
