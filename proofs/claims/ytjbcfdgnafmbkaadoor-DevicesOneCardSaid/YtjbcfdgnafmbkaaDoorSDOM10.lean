/- Lemmas, walks and printed functions for the claim. -/
import Derived.Below
import Derived.Deep.Draws
import Derived.RangeFuncBox
section
namespace Go.Proofs.YtjbcfdgnafmbkaaDoor
open Go.RowKit
def Arr (W : World) (B : Nat) (t : TypeId) (vs : List Value) : Prop := W.heap[B]? = some (.cells vs.toArray t (0, 0))
theorem Arr.lt {W : World} {B : Nat} {t : TypeId} {vs : List Value} (h : Arr W B t vs) : B < W.heap.size := (Array.getElem?_eq_some_iff.1 h).1
theorem Arr.cell {W : World} {B : Nat} {t : TypeId} {vs : List Value} (h : Arr W B t vs) {j : Nat} {v : Value} (hj : vs[j]? = some v) : W.cell? ⟨B, j, none⟩ = some v := by
  simp [World.cell?, show W.heap[B]? = _ from h, hj]
theorem Arr.frozen {W : World} {B : Nat} {t : TypeId} {vs : List Value} (h : Arr W B t vs) (j : Nat) : W.frozen? ⟨B, j, none⟩ = false := by
  simp [World.frozen?, show W.heap[B]? = _ from h]
theorem Arr.new (W : World) (t : TypeId) (vs : List Value) : Arr (W.alloc (.cells vs.toArray t)) W.heap.size t vs := World.alloc_heap_new W _
theorem Arr.kept {W W' : World} {row : Option Nat} {B : Nat} {t : TypeId} {vs : List Value} (h : Arr W B t vs) (hg : W.grownBy W' row) (hne : some B ≠ row) : Arr W' B t vs := (hg.block B h.lt hne).trans h
theorem Arr.alloc {W : World} {B : Nat} {t : TypeId} {vs : List Value} (h : Arr W B t vs) (o : Obj) : Arr (W.alloc o) B t vs := h.kept (World.grownBy_alloc W o none) (by simp)
theorem Arr.below {W W' : World} {n B : Nat} {t : TypeId} {vs : List Value} (h : Arr W B t vs) (hb : Below n W W') (hB : B < n) : Arr W' B t vs := (hb.block B hB).trans h
theorem Arr.set {W : World} {B : Nat} {t : TypeId} {vs : List Value} (h : Arr W B t vs) (j : Nat) (v : Value) : Arr (W.setCell ⟨B, j, none⟩ v) B t (vs.set j v) := by
  obtain ⟨hlt, hk⟩ := Array.getElem?_eq_some_iff.1 h
  show (W.heap.modify B _)[B]? = _
  rw [Array.getElem?_eq_getElem (by rw [Array.size_modify]; exact hlt), Array.getElem_modify_self, hk]
  simp
theorem grownBy_set (W : World) (B j : Nat) (v : Value) : W.grownBy (W.setCell ⟨B, j, none⟩ v) (some B) :=
  ⟨rfl, rfl, rfl, (KeepsWalks.setCell W _ v).size, fun k _ hk => Below.heap_setCell _ _ _ k (fun e => hk (by rw [e]))⟩
theorem Arr.other {W : World} {B : Nat} {t : TypeId} {vs : List Value} (h : Arr W B t vs) {B' : Nat} (hne : B ≠ B') (j : Nat) (v : Value) : Arr (W.setCell ⟨B', j, none⟩ v) B t vs :=
  h.kept (grownBy_set W B' j v) (fun e => hne (by cases e; rfl))
theorem Arr.drew {W : World} {B : Nat} {t : TypeId} {vs : List Value} (h : Arr W B t vs) : Arr W.drew B t vs := h
theorem Arr.drewN {W : World} {B : Nat} {t : TypeId} {vs : List Value} (h : Arr W B t vs) (n : Nat) : Arr (W.drewN n) B t vs := h
theorem grownBy_drewN (W : World) (n : Nat) (row : Option Nat) : W.grownBy (W.drewN n) row := ⟨rfl, rfl, rfl, Nat.le_refl _, fun _ _ _ => rfl⟩
theorem grownBy_refl (W : World) (row : Option Nat) : W.grownBy W row := ⟨rfl, rfl, rfl, Nat.le_refl _, fun _ _ _ => rfl⟩
theorem grownBy_trans {A B C : World} {row : Option Nat} (h : A.grownBy B row) (k : B.grownBy C row) : A.grownBy C row :=
  ⟨k.os.trans h.os, k.tape.trans h.tape, k.output.trans h.output, Nat.le_trans h.size k.size, fun i hi hr => (k.block i (Nat.lt_of_lt_of_le hi h.size) hr).trans (h.block i hi hr)⟩
theorem below_of_grown {n : Nat} {A B C : World} {row : Option Nat} (h : Below n A B) (k : B.grownBy C row) (hn : n ≤ A.heap.size) (hr : ∀ r, row = some r → n ≤ r) : Below n A C := h.grown k (Nat.le_trans hn h.size) hr
def ints (k : IntKind) (xs : List Nat) : List Value := xs.map fun (x : Nat) => .int k (x : Int)
theorem ints_get (k : IntKind) (xs : List Nat) {j : Nat} (h : j < xs.length) : (ints k xs)[j]? = some (.int k (xs.getD j 0 : Nat)) := by
  simp [ints, List.getElem?_map, List.getElem?_eq_getElem h, List.getD_eq_getElem?_getD]
theorem ints_set (k : IntKind) (xs : List Nat) (j x : Nat) : (ints k xs).set j (.int k (x : Int)) = ints k (xs.set j x) := by simp [ints, List.map_set]
theorem ints_length (k : IntKind) (xs : List Nat) : (ints k xs).length = xs.length := by simp [ints]
theorem grown_new {A B : World} {row : Option Nat} (h : A.grownBy B row) {b : Nat} (hb : A.heap.size ≤ b) (j : Nat) (v : Value) : A.grownBy (B.setCell ⟨b, j, none⟩ v) row :=
  ⟨h.os, h.tape, h.output, Nat.le_trans h.size (KeepsWalks.setCell B _ v).size, fun k hk hr => (Below.heap_setCell B ⟨b, j, none⟩ v k (by simp; omega)).trans (h.block k hk hr)⟩
theorem grown_row {A B : World} {b : Nat} (h : A.grownBy B (some b)) (j : Nat) (v : Value) : A.grownBy (B.setCell ⟨b, j, none⟩ v) (some b) := grownBy_trans h (grownBy_set B b j v)
theorem grown_alloc {A B : World} {row : Option Nat} (h : A.grownBy B row) (o : Obj) : A.grownBy (B.alloc o) row := grownBy_trans h (World.grownBy_alloc B o row)
theorem grown_drewN {A B : World} {row : Option Nat} (h : A.grownBy B row) (n : Nat) : A.grownBy (B.drewN n) row := grownBy_trans h (grownBy_drewN B n row)
theorem grown_drew {A B : World} {row : Option Nat} (h : A.grownBy B row) : A.grownBy B.drew row := grownBy_trans h ⟨rfl, rfl, rfl, Nat.le_refl _, fun _ _ _ => rfl⟩
theorem grown_row_of_none {A B : World} (h : A.grownBy B none) (row : Option Nat) : A.grownBy B row := ⟨h.os, h.tape, h.output, h.size, fun k hk _ => h.block k hk (by simp)⟩
theorem grown_below {A B C : World} (h : A.grownBy B none) {n : Nat} (g : Below n B C) (hn : A.heap.size ≤ n) : A.grownBy C none :=
  ⟨g.os.trans h.os, g.tape.trans h.tape, g.output.trans h.output, Nat.le_trans h.size g.size, fun k hk hr => (g.block k (Nat.lt_of_lt_of_le hk hn)).trans (h.block k hk hr)⟩
theorem grown_trans_new {A B C : World} (h : A.grownBy B none) {r : Nat} (g : B.grownBy C (some r)) (hr : A.heap.size ≤ r) : A.grownBy C none :=
  ⟨g.os.trans h.os, g.tape.trans h.tape, g.output.trans h.output, Nat.le_trans h.size g.size, fun k hk hn => (g.block k (Nat.lt_of_lt_of_le hk h.size) (by simp; omega)).trans (h.block k hk hn)⟩
theorem cell_grown {A B : World} {row : Option Nat} (h : A.grownBy B row) {a : Addr} {v : Value} (hc : A.cell? a = some v) (hr : ∀ r, row = some r → a.block ≠ r) : B.cell? a = some v :=
  (World.cell?_of_block (h.block a.block (World.block_lt_of_cell? A a hc) (fun e => hr _ e.symm rfl))).trans hc
end Go.Proofs.YtjbcfdgnafmbkaaDoor
end
