/- Lemmas, walks and printed functions for the claim. -/
import Derived.Test.YtjbcfdgnafmbkaaDoorSDOM3
import Derived.Test.YtjbcfdgnafmbkaaDoorSDOM4
import Derived.Test.YtjbcfdgnafmbkaaDoorSDOM5
import Derived.Deep.LoopGhost
import Derived.Laws.BitsLemmas
import Derived.Lib.Hide
import Derived.LoopIn
import Derived.LoopNIn
import Derived.Outline
import Derived.OwnWalkIn
import Derived.RangeFuncBound
import Derived.RangeFuncCalls
import Derived.RangeFuncLeaves
import Derived.RangeFuncNested
import Derived.Shelf.Abstract
import Derived.Shelf.RegionOpen
import Derived.TacticsInMore
import Derived.Test.YtjbcfdgnafmbkaaDoorProg
import Derived.WalkKit
section
set_option linter.unusedVariables false
namespace Go.Proofs.YtjbcfdgnafmbkaaDoor
open Go.RowKit Go.Shelf
attribute [local go_sem] Oper.semAt_some
structure SqEl where
  v : Nat
  b : Bool
  lt : v < 2147483579
def sqs : Nat → (a : Nat) → a < 2147483579 → Nat → List SqEl
  | 0, _, _, _ => []
  | k + 1, a, ha, n => if n = 0 then [] else ⟨a, (n : Int) % 2 == 1, ha⟩ :: sqs k (a * a % 2147483579) (Nat.mod_lt _ (by omega)) (n / 2)
def sqEnc (x : SqEl) : Array Value := #[.int .i64 x.v, .bool x.b]
def SqR (bn ba : Nat) (_ : World) (r : Nat) : Prop := r = bn ∨ r = ba
def SqKp (bn ba : Nat) (A B : World) : Prop := B.heap[bn]? = A.heap[bn]? ∧ B.heap[ba]? = A.heap[ba]?
theorem and_one (n : Nat) (h : n < 9223372036854775808) : bits .and .i64 (n : Int) 1 = ((n % 2 : Nat) : Int) := by
  have := bits_mask .i64 63 (by decide) (fun n h0 h1 => by rw [IntKind.wrap_i64]; omega) 1 (by decide) (n : Int) (by omega) (by omega)
  simpa using this
theorem sq_le {a : Nat} (ha : a < 2147483579) : (a : Int) * a ≤ 4611686018427387904 := by
  have : a * a ≤ 2147483578 * 2147483578 := Nat.mul_le_mul (by omega) (by omega)
  have e : ((a * a : Nat) : Int) = (a : Int) * a := Int.natCast_mul a a
  omega
theorem emod_cast (a : Nat) : (a : Int) * a % 2147483579 = ((a * a % 2147483579 : Nat) : Int) := by
  rw [Int.natCast_emod, Int.natCast_mul]; rfl
theorem ediv_cast (a : Nat) : (a : Int) / 2 = ((a / 2 : Nat) : Int) := by omega
structure Aside0' (p : Prop) : Prop where mk :: (out : p)
theorem turn_box {R : World → Nat → Prop} {W : World} {B : Nat} {t : TypeId} {v : Value} (hR : R W B) (h : Boxed W B t v) (u : Value) : Turn R W (W.setCell ⟨B, 0, none⟩ u) :=
  ⟨some B, grownBy_setCell' W B u, fun r e => by cases e; exact ⟨hR, _, h, rfl⟩⟩
theorem squares_seq (F : Fence) (m : Nat) (hF : F.fn 109) (hro : F.round = none) (hm : 1 ≤ m) (bn ba : Nat) (hne : bn ≠ ba) (a n : Nat) (ha : a < 2147483579) (hn : n < 2147483648) (W : World)
    (hbn : Boxed W bn 3 (.int .i64 n)) (hba : Boxed W ba 3 (.int .i64 a)) :
    SeqR F m Tryd.prog 109 #[.pointer (some ⟨bn, 0, none⟩), .pointer (some ⟨ba, 0, none⟩)] sqEnc (SqR bn ba) (SqKp bn ba) (fun xs => xs = sqs 31 a ha n) (fun _ => True) 31 W := by
  intro l J Jx hJ hJx hY h0
  refine callsIn_of_wp Tryd.func109 rfl hF ?_ hro
  simp only [Tryd.ntmps109, List.size_toArray, List.length_cons, List.length_nil, Nat.reduceAdd, Nat.reduceSub, Array.replicate_succ, Array.replicate_zero, List.push_toArray, List.append_toArray, List.nil_append, List.cons_append]
  gi_wp2
  gi_loopw [] (fun wr => ∃ (k a' n' : Nat) (ha' : a' < 2147483579) (pre : List SqEl), sqs 31 a ha n = pre ++ sqs k a' ha' n' ∧ n' < 2 ^ k ∧ pre.length + k = 31 ∧ Boxed wr bn 3 (.int .i64 n') ∧ Boxed wr ba 3 (.int .i64 a') ∧ J pre wr)
    (fun wr => match wr.cell? ⟨bn, 0, none⟩ with | some (.int _ n) => n.toNat | _ => 0)
  case atStart =>
    exact ⟨31, a, n, ha, [], rfl, hn, rfl, hbn, hba, h0⟩
  case round =>
    obtain ⟨k, a', n', ha', pre, hs, hk, hpk, hbn', hba', hJs⟩ := hrel
    have hcn := hbn'.cell
    have hfn := hbn'.frozen
    have hca := hba'.cell
    have hfa := hba'.frozen
    have hle : n' < 9223372036854775807 := by have : 2 ^ k ≤ 2 ^ 31 := Nat.pow_le_pow_right (by omega) (by omega); omega
    by_cases hz : n' = 0
    · subst hz
      gi_wp2
      go_end0
      exact ⟨⟨_, rfl⟩, .inl ⟨pre, by rw [hs]; cases k <;> simp [sqs], hJs⟩⟩
    · have hpos : decide (0 < (n' : Int)) = true := by simp; omega
      have H := Lib.hid hs
      clear hs
      have hand := and_one n' (by omega)
      obtain ⟨k, rfl⟩ : ∃ j, k = j + 1 := by
        cases k with
        | zero => simp at hk; omega
        | succ j => exact ⟨j, rfl⟩
      obtain ⟨fn, tmps, assign, body, hy, hR⟩ := hY pre ⟨a', (n' : Int) % 2 == 1, ha'⟩ wr hJs (by omega)
      dsimp only [sqEnc] at hy
      gi_wp2
      refine hR.mono ?_
      rintro e W' (⟨rfl, hJ', hkp⟩ | ⟨rfl, hJx'⟩)
      · have hbn2 : Boxed W' bn 3 (.int .i64 n') := hkp.1.trans hbn'
        have hba2 : Boxed W' ba 3 (.int .i64 a') := hkp.2.trans hba'
        have hcn2 := hbn2.cell
        have hfn2 := hbn2.frozen
        have hca2 := hba2.cell
        have hfa2 := hba2.frozen
        clear hcn hfn hca hfa hand hy hR
        have hsq : (a' : Int) * a' ≤ 4611686018427387904 := sq_le ha'
        have hsq0 : 0 ≤ (a' : Int) * a' := Int.mul_nonneg (by omega) (by omega)
        have hm0 := hbn2.cell
        have t1 : Turn (SqR bn ba) W' (W'.setCell ⟨ba, 0, none⟩ (.int .i64 ((a' : Int) * a' % 2147483579))) := turn_box (.inr rfl) hba2 _
        have b1 : Boxed (W'.setCell ⟨ba, 0, none⟩ (.int .i64 ((a' : Int) * a' % 2147483579))) bn 3 (.int .i64 n') := hbn2.other hne _
        have b2 : Boxed (W'.setCell ⟨ba, 0, none⟩ (.int .i64 ((a' : Int) * a' % 2147483579))) ba 3 (.int .i64 ((a' : Int) * a' % 2147483579)) := hba2.set _
        have t2 := turn_box (R := SqR bn ba) (.inl rfl) b1 (.int .i64 ((n' : Int) / 2))
        have hJ2 := hJ _ _ _ (hJ _ _ _ hJ' t1) t2
        have b3 := b1.set (.int .i64 ((n' : Int) / 2))
        have b4 := b2.other (Ne.symm hne) (.int .i64 ((n' : Int) / 2))
        have hfin : Aside0' (sqs 31 a ha n = (pre ++ [⟨a', (n' : Int) % 2 == 1, ha'⟩]) ++ sqs k (a' * a' % 2147483579) (Nat.mod_lt _ (by omega)) (n' / 2)) := ⟨by
          rw [H.out, sqs, if_neg hz, List.append_assoc, List.singleton_append]⟩
        gi_wp2
        go_roundw
        case rel =>
          exact ⟨k, a' * a' % 2147483579, n' / 2, _, _, hfin.out, by rw [Nat.pow_succ] at hk; omega, by simp; omega, by have := b3; rw [ediv_cast] at this ⊢; exact this, by have := b4; rw [emod_cast] at this ⊢; exact this, hJ2⟩
        case measure =>
          rw [b3.cell, hbn'.cell]
          simp only []
          omega
      · clear hy hR
        gi_wp2
        refine bodyPost_ret (results_none rfl _ _ _) rfl ?_
        exact ⟨⟨_, rfl⟩, .inr ⟨_, trivial, hJx'⟩⟩
theorem least_eq (n : Int) : (Int.tmod n 1073741789 + 1073741789) % 1073741789 = n % 1073741789 := by
  rw [Int.add_emod_right, Int.tmod_eq_emod]
  split
  · simp
  · simp
set_option maxHeartbeats 400000 in
theorem least_one (n : Int) (b : Nat) (w : World) (h : w.cell? ⟨b, 0, none⟩ = some (.int .i64 n)) :
    Calls Tryd.prog 72 #[.slice (some ⟨b, 0, none⟩) 1 1] w fun e w' => e = .returned (.int .i64 (n % 1073741789)) ∧ w = w' := by
  have e1 := Lib.hid (least_eq n)
  have lo : -1073741789 < Int.tmod n 1073741789 := by
    have := Int.lt_tmod_of_pos n (b := 1073741789) (by omega); omega
  have hi : Int.tmod n 1073741789 < 1073741789 := Int.tmod_lt_of_pos n (by omega)
  go_enter Tryd.func72, Tryd.ntmps72
  go_wp2
  refine wp_loop_rounds 2 ?_; rw [rounds_succ]
  go_wp2
  rw [rounds_succ]
  go_wp2
  go_ret
  exact ⟨congrArg (fun z => Ending.returned (.int .i64 z)) e1.out, rfl⟩
theorem squares_call (a n : Int) (w : World) :
    Calls Tryd.prog 71 #[.int .i64 a, .int .i64 n] w fun e w' => e = .returned (.func (.func 109) #[] #[.pointer (some ⟨w.heap.size + 1, 0, none⟩), .pointer (some ⟨w.heap.size, 0, none⟩)]) ∧ (w.alloc (.cells #[.int .i64 a] 3)).alloc (.cells #[.int .i64 n] 3) = w' := by
  go_enter Tryd.func71, Tryd.ntmps71
  go_wp2
  go_ret
  exact ⟨rfl, rfl⟩
def powFold (c : Nat) (xs : List SqEl) : Nat := xs.foldl (fun c x => if x.b then c * x.v % 2147483579 else c) c
theorem powFold_snoc (c : Nat) (xs : List SqEl) (x : SqEl) : powFold c (xs ++ [x]) = if x.b then powFold c xs * x.v % 2147483579 else powFold c xs := by simp [powFold]
theorem powFold_lt {c : Nat} (hc : c < 2147483579) : ∀ xs : List SqEl, powFold c xs < 2147483579 := by
  intro xs
  unfold powFold
  induction xs generalizing c with
  | nil => exact hc
  | cons x xs ih =>
    rw [List.foldl_cons]
    refine ih ?_
    split
    · exact Nat.mod_lt _ (by omega)
    · exact hc
theorem powFold_sqs : ∀ (k a : Nat) (ha : a < 2147483579) (n c : Nat), powFold c (sqs k a ha n) = Num.fp k a n c
  | 0, _, _, _, _ => rfl
  | k + 1, a, ha, n, c => by
    rw [sqs, Num.fp]
    by_cases h : n = 0
    · rw [if_pos h, if_pos h]; rfl
    · rw [if_neg h, if_neg h, ← powFold_sqs k _ (Nat.mod_lt _ (by omega))]
      show powFold _ (sqs k _ _ _) = _
      have : (if ((n : Int) % 2 == 1) = true then c * a % 2147483579 else c) = if n % 2 = 1 then c * a % 2147483579 else c := by
        by_cases e : n % 2 = 1
        · rw [if_pos e, if_pos (by simp; omega)]
        · rw [if_neg e, if_neg (by simp; omega)]
      rw [← this]
theorem mul_le {a b : Nat} (ha : a < 2147483579) (hb : b < 2147483579) : (a : Int) * b ≤ 4611686018427387904 := by
  have : a * b ≤ 2147483578 * 2147483578 := Nat.mul_le_mul (by omega) (by omega)
  have e : ((a * b : Nat) : Int) = (a : Int) * b := Int.natCast_mul a b
  omega
theorem mulmod_cast (a b : Nat) : (a : Int) * b % 2147483579 = ((a * b % 2147483579 : Nat) : Int) := by
  rw [Int.natCast_emod, Int.natCast_mul]; rfl
set_option maxHeartbeats 1000000 in
theorem pow_in (a n : Int) (w : World) (h1 : 1 ≤ a) (h2 : a < 2147483579) (hv : Num.J a.toNat 2147483579 = true) :
    Calls Tryd.prog 35 #[.int .i64 a, .int .i64 n] w fun e w' => e = .returned (.tuple #[.int .i64 (powI a n), .int .i64 0]) ∧ Below w.heap.size w w' := by
  refine (callsIn_wide (n := 3)).1 ?_
  obtain ⟨x, rfl⟩ := Int.eq_ofNat_of_zero_le (show 0 ≤ a by omega)
  simp only [Int.toNat_natCast] at hv
  have HV := Lib.hid (show (Num.J x 2147483579) = true from hv)
  clear hv
  refine callsIn_of_wp_marks Tryd.func35 rfl trivial ?_ rfl
  simp only [Tryd.ntmps35, List.size_toArray, List.length_cons, List.length_nil, Nat.reduceAdd, Nat.reduceSub, Array.replicate_succ, Array.replicate_zero, List.push_toArray, List.append_toArray, List.nil_append, List.cons_append]
  have l1 := least_one n (w.heap.size + 1) ((w.alloc (Obj.cells #[Value.int IntKind.i64 1] 3)).alloc (Obj.cells #[Value.int IntKind.i64 n] 3)) (by simp)
  gi_wp2_with (first | (refine ⟨trivial, ?_⟩; gi_at_call 38; refine (callsIn_wide.2 (valid_in x _ (by omega) (by omega))).mono ?_; rintro e w' ⟨rfl, rfl⟩; rw [HV.out]) | (refine ⟨trivial, ?_⟩; gi_at_call 72; refine (callsIn_wide.2 l1).mono ?_; clear l1; rintro e w' ⟨rfl, rfl⟩) | (refine ⟨trivial, ?_⟩; gi_at_call 71; refine (callsIn_wide.2 (squares_call _ _ _)).mono ?_; rintro e w' ⟨rfl, rfl⟩))
  have hq : (n % 1073741789).toNat < 2147483648 := by omega
  have hqe : ((n % 1073741789).toNat : Int) = n % 1073741789 := by omega
  obtain ⟨q, hq2⟩ : ∃ q : Nat, (q : Int) = n % 1073741789 := ⟨_, hqe⟩
  have HQ := Lib.hid hq2
  have hqlt : q < 2147483648 := by omega
  rw [← hq2]
  clear hq2 hq hqe
  have bc : Boxed ((((w.alloc (.cells #[.int .i64 1] 3)).alloc (.cells #[.int .i64 n] 3)).alloc (.cells #[.int .i64 x] 3)).alloc (.cells #[.int .i64 q] 3)) w.heap.size 3 (.int .i64 1) := (((Boxed.new w 3 _).alloc _).alloc _).alloc _
  have ba : Boxed ((((w.alloc (.cells #[.int .i64 1] 3)).alloc (.cells #[.int .i64 n] 3)).alloc (.cells #[.int .i64 x] 3)).alloc (.cells #[.int .i64 q] 3)) (w.heap.size + 1 + 1) 3 (.int .i64 x) := by
    have := (Boxed.new ((w.alloc (.cells #[.int .i64 1] 3)).alloc (.cells #[.int .i64 n] 3)) 3 (.int .i64 x)).alloc (.cells #[.int .i64 q] 3)
    simpa using this
  have bn : Boxed ((((w.alloc (.cells #[.int .i64 1] 3)).alloc (.cells #[.int .i64 n] 3)).alloc (.cells #[.int .i64 x] 3)).alloc (.cells #[.int .i64 q] 3)) (w.heap.size + 1 + 1 + 1) 3 (.int .i64 q) := by
    have := Boxed.new (((w.alloc (.cells #[.int .i64 1] 3)).alloc (.cells #[.int .i64 n] 3)).alloc (.cells #[.int .i64 x] 3)) 3 (.int .i64 q)
    simpa using this
  have hb : Below w.heap.size w ((((w.alloc (.cells #[.int .i64 1] 3)).alloc (.cells #[.int .i64 n] 3)).alloc (.cells #[.int .i64 x] 3)).alloc (.cells #[.int .i64 q] 3)) :=
    ((((Below.refl _ w).alloc (Nat.le_refl _) _).alloc (by simp) _).alloc (by simp; omega) _).alloc (by simp; omega) _
  have hsz : ((((w.alloc (.cells #[.int .i64 1] 3)).alloc (.cells #[.int .i64 n] 3)).alloc (.cells #[.int .i64 x] 3)).alloc (.cells #[.int .i64 q] 3)).heap.size = w.heap.size + 4 := by simp
  generalize ((((w.alloc (.cells #[.int .i64 1] 3)).alloc (.cells #[.int .i64 n] 3)).alloc (.cells #[.int .i64 x] 3)).alloc (.cells #[.int .i64 q] 3)) = W0 at bc ba bn hb hsz ⊢
  have HS := Lib.hid hsz
  clear hsz
  refine wpIn_rangeO rfl (by omega) (gf := 109) (lb := #[.pointer (some ⟨w.heap.size + 1 + 1 + 1, 0, none⟩), .pointer (some ⟨w.heap.size + 1 + 1, 0, none⟩)]) rfl trivial (enters_of Tryd.func109 (by kernel_rfl) rfl)
    (fun o => squares_seq Fence.wide 2 trivial rfl (by omega) (w.heap.size + 1 + 1 + 1) (w.heap.size + 1 + 1) (by omega) x q (by omega) hqlt _ ((bn.alloc _).alloc _) ((ba.alloc _).alloc _))
    ?kt ?kb (fun _ => rfl)
    (fun pre W => Boxed W w.heap.size 3 (.int .i64 (powFold 1 pre)) ∧ Below w.heap.size w W)
    (fun _ _ _ => False) ?hI (fun _ _ _ _ _ hs _ _ => hs) (fun o => ⟨(bc.alloc _).alloc _, (hb.alloc hb.size _).alloc (by have := hb.size; simp; omega) _⟩)
    (fun y a' _ => a' = { tmps := #[.int .i64 x, .int .i64 n, undef, undef, .pointer (some ⟨w.heap.size, 0, none⟩), .int .i64 0, .int .i64 y.v, .bool y.b, .int .i64 x, .bool true, .bool false, .int .i64 x, .int .i64 n, .slice (some ⟨w.heap.size + 1, 0, none⟩) 1 1, .int .i64 q, .func (.func 109) #[] #[.pointer (some ⟨w.heap.size + 1 + 1 + 1, 0, none⟩), .pointer (some ⟨w.heap.size + 1 + 1, 0, none⟩)], .int .i64 y.v, .bool y.b, undef, undef, undef, undef, undef, undef], defers := [] })
    (fun _ _ _ _ _ h _ => h) ?assign ?body ?done ?stop
  case kt => exact fun h k => ⟨k.1.trans h.1, k.2.trans h.2⟩
  case kb =>
    intro W o o' _
    have := HS.out
    exact ⟨World.putObj_heap_other (by omega), World.putObj_heap_other (by omega)⟩
  case hI =>
    rintro s A B row ⟨h1, h2⟩ hg hr
    have := HS.out
    refine ⟨h1.kept hg ?_, h2.grown hg h2.size ?_⟩
    · intro e
      rcases hr _ e.symm with ⟨e2, _⟩ | ⟨e2 | e2, _⟩ <;> omega
    · intro k e
      rcases hr _ e with ⟨e2, _⟩ | ⟨e2 | e2, _⟩ <;> omega
  case assign =>
    intro pre y W K hi _ _ _ hK
    have hK2 := hK _ _ (KeepsB.refl _ _ _) ⟨rfl, rfl⟩ hi rfl
    clear hK
    dsimp only [sqEnc]
    gi_wp2
    exact hK2
  case body =>
    rintro pre y a' W _ hD ⟨hc, hbl⟩ rfl _
    obtain ⟨y, b, hy⟩ := y
    have hlt := powFold_lt (c := 1) (by omega) pre
    have HP := Lib.hid (powFold_snoc 1 pre ⟨y, b, hy⟩)
    generalize powFold 1 pre = c at hc hlt HP
    have hcc := hc.cell
    have hcf := hc.frozen
    cases b with
    | false =>
      gi_wp2
      exact ⟨KeepsB.refl _ _ _, ⟨rfl, rfl⟩, by rw [HP.out]; exact hc, hbl⟩
    | true =>
      have hsq : (c : Int) * y ≤ 4611686018427387904 := mul_le hlt hy
      have hsq0 : 0 ≤ (c : Int) * y := Int.mul_nonneg (by omega) (by omega)
      have hset := hc.set (.int .i64 ((c : Int) * y % 2147483579))
      have hkb : KeepsB (W0.heap.size + 1) W0.heap.size W (W.setCell ⟨w.heap.size, 0, none⟩ (.int .i64 ((c : Int) * y % 2147483579))) := KeepsB.of_others (KeepsOthers.setCell _ _ _)
      gi_wp2
      refine ⟨hkb, ⟨Below.heap_setCell _ _ _ _ (by simp; omega), Below.heap_setCell _ _ _ _ (by simp; omega)⟩, ?_, hbl.setCell (by simp) _⟩
      rw [HP.out]
      simp only [if_true]
      rw [mulmod_cast] at hset ⊢
      exact hset
  case done =>
    rintro xs W rfl ⟨hc, hbl⟩ hD
    have hp : ((powFold 1 (sqs 31 x (by omega) q) : Nat) : Int) = powI x n := by
      rw [powFold_sqs, Num.fp_eq _ _ _ _ hqlt (by omega), Nat.one_mul, Nat.mod_eq_of_lt (Num.pm_lt _ _)]
      unfold powI
      rw [← HQ.out]
      simp
    rw [hp] at hc
    have hcc := hc.cell
    have hcf := hc.frozen
    have hD2 := (KeepsOthers.setCell W ⟨w.heap.size, 0, none⟩ (.int .i64 (powI x n))).same _ _ hD rfl
    have hlast : ((W.setCell ⟨w.heap.size, 0, none⟩ (.int .i64 (powI x n))).putObj W0.heap.size (.deferred none)).cell? ⟨w.heap.size, 0, none⟩ = some (.int .i64 (powI x n)) :=
      cell_kept (hc.set _).cell (grownBy_putObj' _ W0.heap.size (.deferred none)) (fun r e => by cases e; exact ⟨_, hD2, rfl⟩)
    have hbel : Below w.heap.size w ((W.setCell ⟨w.heap.size, 0, none⟩ (.int .i64 (powI x n))).putObj W0.heap.size (.deferred none)) :=
      (hbl.setCell (by simp) _).trans (belowK_b (w := w) (Nat.le_refl _) _ W0.heap.size _ _ (by have := HS.out; omega) hD2 rfl rfl)
    clear hp
    gi_wp2
    refine ⟨by simp, .inl ⟨_, _, rfl, run_takeDeferred hD2, ?_⟩⟩
    exact ⟨_, by simp [results, Tryd.results35, go_sem, hlast], rfl, hbel⟩
  case stop =>
    intro c pre W _ h
    exact h.elim
end Go.Proofs.YtjbcfdgnafmbkaaDoor
end
