/- Lemmas, walks and printed functions for the claim. -/
import Derived.RangeFuncBound
import Derived.RangeFuncCalls
import Derived.RangeFuncLeaves
import Derived.RangeFuncNested
section
set_option linter.unusedVariables false
namespace Go.Proofs.YtjbcfdgnafmbkaaDoor
open Go.RowKit
def Turn (R : World → Nat → Prop) (A B : World) : Prop :=
  ∃ row, A.grownBy B row ∧ ∀ r, row = some r → R A r ∧ ∃ o : Obj, A.heap[r]? = some o ∧ o.isCells = true
def SeqR {α : Type} (F : Fence) (n : Nat) (P : Program) (g : Nat) (lb : Array Value) (encs : α → Array Value) (R : World → Nat → Prop) (Kp : World → World → Prop) (S Sp : List α → Prop) (N : Nat) (W : World) : Prop :=
  ∀ (l : Nat) (J Jx : List α → World → Prop), (∀ s A B, J s A → Turn R A B → J s B) → (∀ s A B, Jx s A → Turn R A B → Jx s B) →
    (∀ pre x W1, J pre W1 → pre.length < N → YieldAt F (n - 1) P l (encs x) W1 fun e W' =>
      (e = .returned (.bool true) ∧ J (pre ++ [x]) W' ∧ Kp W1 W') ∨ (e = .returned (.bool false) ∧ Jx (pre ++ [x]) W')) →
    J [] W →
    CallsIn F n P g (#[.func (.yield l) #[] #[]] ++ lb) W fun e W' => (∃ v, e = .returned v) ∧ ((∃ xs, S xs ∧ J xs W') ∨ (∃ pre, Sp pre ∧ Jx pre W'))
def KeepsL (l : Nat) (W W' : World) : Prop := ∀ r, W.heap[l]? = some (.loop r) → W'.heap[l]? = some (.loop r)
theorem KeepsL.refl (l : Nat) (W : World) : KeepsL l W W := fun _ h => h
theorem KeepsL.trans {l : Nat} {A B C : World} (h : KeepsL l A B) (k : KeepsL l B C) : KeepsL l A C := fun r hr => k r (h r hr)
theorem KeepsL.of_others {l : Nat} {W W' : World} (h : KeepsOthers W W') : KeepsL l W W' := fun _ hr => h.same _ _ hr rfl
def postR {α : Type} (l : Nat) (Kp : World → World → Prop) (I : List α → World → Prop) (Ix : Code → List α → World → Prop) (xs : List α) (W : World) : Exit → Act → World → Prop
  | .normal, _, W' => KeepsL l W W' ∧ Kp W W' ∧ I xs W'
  | .ret, _, W' => KeepsL l W W' ∧ Ix .ret xs W'
  | .exit id, _, W' => KeepsL l W W' ∧ Ix (.exit id) xs W'
  | .goto t, _, W' => KeepsL l W W' ∧ Ix (.goto t) xs W'
  | .panic _, _, _ => False
  | .outgrown, _, _ => False
def AbR {β : Type} (l : Nat) (R : World → Nat → Prop) (I : β → World → Prop) : Prop :=
  ∀ s A B row, I s A → A.grownBy B row → (∀ r, row = some r → (r = l ∧ ∃ q, A.heap[l]? = some (.loop q)) ∨ R A r ∧ ∃ o : Obj, A.heap[r]? = some o ∧ o.isCells = true) → I s B
variable {F : Fence} {n : Nat} {P : Program}
theorem wpIn_rangeR {α : Type} {g : Operand} {ps : Array Tmp} {assign body : Code} {Q : Exit → Act → World → Prop} {a : Act} {w : World}
    (h1 : 1 ≤ n) {gf : Nat} {lb : Array Value} (hg : a.eval g = .func (.func gf) #[] lb) (hFg : F.fn gf) (eg : ∀ args w, (callFunc gf args).run P w = .ok (.enter gf args) w)
    (l D : Nat) (mark : List Deferred) (W1 : World)
    (henter : ∀ fn, (Instr.enterLoop fn a.tmps ps assign body F.round).run P w = .ok (l, mark) (W1.alloc (.loop { state := .ready, pending := none, fn, tmps := a.tmps, params := ps, assign, body, defers := D })))
    (hl : l = W1.heap.size)
    {encs : α → Array Value} {R : World → Nat → Prop} {Kp : World → World → Prop} {S Sp : List α → Prop} {N : Nat} (hseq : ∀ o, SeqR F (n - 1) P gf lb encs R Kp S Sp N (W1.alloc (.loop o)))
    (hKt : ∀ {A B C : World}, Kp A B → Kp B C → Kp A C) (hKb : ∀ (W : World) (o o' : Loop), W.heap[l]? = some (.loop o) → Kp W (W.putObj l (.loop o'))) (hps : ∀ x, (encs x).size = ps.size)
    (I : List α → World → Prop) (Ix : Code → List α → World → Prop) (hI : AbR l R I) (hIx : ∀ c, AbR l R (Ix c)) (h0 : ∀ o, I [] (W1.alloc (.loop o))) (Ax : α → Act → World → Prop) (hAx : ∀ x a' (W : World) (o o' : Loop), Ax x a' W → W.heap[l]? = some (.loop o) → Ax x a' (W.putObj l (.loop o')))
    (hassign : ∀ (pre : List α) (x : α) (W : World) (K : Act → World → Prop), I pre W → pre.length < N → (∃ o, W.heap[l]? = some (.loop o)) → (∀ a' W', KeepsL l W W' → Kp W W' → I pre W' → Ax x a' W' → K a' W') →
      assign.wpIn (F.inRound l) (n - 1 - 1) P (Exit.then K (fun _ _ _ => False)) { tmps := (ps.zip (encs x)).foldl (fun t (p, v) => t.setIfInBounds p v) a.tmps, defers := [] } W)
    (hbody : ∀ (pre : List α) (x : α) (a' : Act) (W : World), (∃ o, W.heap[l]? = some (.loop o) ∧ o.defers = D) → I pre W → Ax x a' W → pre.length < N → body.wpIn (F.inRound l) (n - 1 - 1) P (postR l Kp I Ix (pre ++ [x]) W) a' W)
    (hdone : ∀ (xs : List α) (W : World), S xs → I xs W → Q .normal { a with defers := mark ++ a.defers } W)
    (hstop : ∀ (c : Code) (pre : List α) (W : World), Sp pre → Ix c pre W → c.wpIn F n P Q { a with defers := mark ++ a.defers } W) :
    (Code.rangeFunc g ps assign body).wpIn F n P Q a w := by
  refine wpIn_rangeFunc ?_
  intro fn hfn
  obtain ⟨rec, hrec⟩ : ∃ rec : LoopState → Option Code → Loop, rec = fun st pe => { state := st, pending := pe, fn, tmps := a.tmps, params := ps, assign, body, defers := D } := ⟨_, rfl⟩
  have hL1 : (W1.alloc (.loop (rec .ready none))).heap[l]? = some (.loop (rec .ready none)) := by rw [hl]; exact World.alloc_heap_new _ _
  refine ⟨l, mark, W1.alloc (.loop (rec .ready none)), { target := .fn (.func gf) lb, args := #[.func (.yield l) #[] #[]] }, W1.alloc (.loop (rec .ready none)), gf,
    #[.func (.yield l) #[] #[]] ++ lb, W1.alloc (.loop (rec .ready none)), ?_, ?_, ?_, ?_, fun _ => h1, ?_⟩
  · rw [henter fn, hrec]
  · simp only [resolve, hg]
    simp [go_sem]
  · intro f' hf'; simp [Target.leads] at hf'; subst hf'; exact hFg
  · simp [invoke, go_sem, eg]
  · have key : ∀ {A B : World} {q : Loop}, A.heap[l]? = some (.loop q) → Turn R A B → B.heap[l]? = some (.loop q) := by
      rintro A B q hq ⟨row, hgr, hrow⟩
      refine (hgr.block l (Array.getElem?_eq_some_iff.1 hq).1 (fun e => ?_)).trans hq
      obtain ⟨_, o, ho, hc⟩ := hrow l e.symm
      rw [hq] at ho; cases ho; cases hc
    have put : ∀ {β : Type} {I' : β → World → Prop}, AbR l R I' → ∀ {s : β} {W : World} {q : Loop} (q' : Loop), I' s W → W.heap[l]? = some (.loop q) → I' s (W.putObj l (.loop q')) := fun h s W q q' hs hq =>
      h s W _ (some l) hs (grownBy_putObj' W l _) (fun r e => by cases e; exact .inl ⟨rfl, q, hq⟩)
    refine (hseq (rec .ready none) l
      (fun pre W => I pre W ∧ W.heap[l]? = some (.loop (rec .ready none)))
      (fun pre W => ∃ c, Ix c pre W ∧ W.heap[l]? = some (.loop (rec .done (some c))))
      (fun s A B hs ht => ⟨by obtain ⟨row, hgr, hrow⟩ := ht; exact hI s A B row hs.1 hgr (fun r e => .inr (hrow r e)), key hs.2 ht⟩)
      (fun s A B hs ht => by
        obtain ⟨c, hc, hq⟩ := hs
        refine ⟨c, ?_, key hq ht⟩
        obtain ⟨row, hgr, hrow⟩ := ht
        exact hIx c s A B row hc hgr (fun r e => .inr (hrow r e)))
      ?_ ⟨h0 _, hL1⟩).mono ?_
    · rintro pre x W ⟨hi, hq⟩ hlen
      have hy := run_yield (P := P) (args := encs x) hq (by rw [hrec]; exact hps x)
      rw [hrec] at hy
      refine ⟨fn, _, assign, body, hy, roundIn_of_wpIn hfn (hassign pre x W _ hi hlen ⟨_, hq⟩ ?_)⟩
      clear hy
      intro a' Wa hka hkpa hia hax
      have hqa := hka _ hq
      refine ⟨_, run_beginRound hqa (by rw [hrec]), ?_⟩
      have hlt := (Array.getElem?_eq_some_iff.1 hqa).1
      have hl2 : (Wa.putObj l (.loop { rec .ready none with state := .busy })).heap[l]? = some (.loop { rec .ready none with state := .busy }) := World.putObj_heap_same hlt
      have hw2 : Kp Wa (Wa.putObj l (.loop { rec .ready none with state := .busy })) := hKb _ _ _ hqa
      refine wpIn_mono (hbody pre x a' _ ⟨_, hl2, by rw [hrec]⟩ (put hI _ hia hqa) (hAx x a' _ _ _ hax hqa) hlen) ?_
      have fin : ∀ (jump : Option Code) (W3 : World), KeepsL l (Wa.putObj l (.loop { rec .ready none with state := .busy })) W3 →
          (Instr.endRound l jump).run P W3 = .ok (.bool jump.isNone) (W3.putObj l (.loop (rec (if jump.isNone then .ready else .done) jump))) ∧
          W3.heap[l]? = some (.loop { rec .ready none with state := .busy }) ∧
          (W3.putObj l (.loop (rec (if jump.isNone then .ready else .done) jump))).heap[l]? = some (.loop (rec (if jump.isNone then .ready else .done) jump)) := fun jump W3 hk3 => by
        have hl3 := hk3 _ hl2
        have := run_endRound (P := P) jump hl3
        rw [hrec] at this ⊢
        exact ⟨this, by rw [hrec] at hl3; exact hl3, World.putObj_heap_same (Array.getElem?_eq_some_iff.1 hl3).1⟩
      rintro e a3 W3 hp
      cases e with
      | normal =>
        obtain ⟨hk3, hkp3, hi3⟩ := hp
        obtain ⟨hr, hl3, hl4⟩ := fin none W3 hk3
        exact ⟨_, _, hr, .inl ⟨rfl, ⟨put hI _ hi3 hl3, hl4⟩, hKt hkpa (hKt (hKt hw2 hkp3) (hKb _ _ _ hl3))⟩⟩
      | ret =>
        obtain ⟨hk3, hi3⟩ := hp
        obtain ⟨hr, hl3, hl4⟩ := fin (some .ret) W3 hk3
        exact ⟨_, _, hr, .inr ⟨rfl, .ret, put (hIx _) _ hi3 hl3, hl4⟩⟩
      | exit id =>
        obtain ⟨hk3, hi3⟩ := hp
        obtain ⟨hr, hl3, hl4⟩ := fin (some (.exit id)) W3 hk3
        exact ⟨_, _, hr, .inr ⟨rfl, .exit id, put (hIx _) _ hi3 hl3, hl4⟩⟩
      | goto t =>
        obtain ⟨hk3, hi3⟩ := hp
        obtain ⟨hr, hl3, hl4⟩ := fin (some (.goto t)) W3 hk3
        exact ⟨_, _, hr, .inr ⟨rfl, .goto t, put (hIx _) _ hi3 hl3, hl4⟩⟩
      | panic ch => exact hp.elim
      | outgrown => exact hp.elim
    · rintro e W2 ⟨⟨v, rfl⟩, (⟨xs, hS, hi, hq⟩ | ⟨pre, hSp, c, hi, hq⟩)⟩
      · exact ⟨none, _, by have := run_endLoop (P := P) hq (by rw [hrec]; simp); rw [hrec] at this; exact this, hdone xs _ hS (put hI _ hi hq)⟩
      · exact ⟨some c, _, by have := run_endLoop (P := P) hq (by rw [hrec]; simp); rw [hrec] at this; exact this, hstop c pre _ hSp (put (hIx c) _ hi hq)⟩
structure KeepsB (l D : Nat) (W W' : World) : Prop where
  lp : KeepsL l W W'
  mark : W.heap[D]? = some (.deferred (some [])) → W'.heap[D]? = some (.deferred (some []))
theorem KeepsB.refl (l D : Nat) (W : World) : KeepsB l D W W := ⟨KeepsL.refl l W, fun h => h⟩
theorem KeepsB.trans {l D : Nat} {A B C : World} (h : KeepsB l D A B) (k : KeepsB l D B C) : KeepsB l D A C := ⟨h.lp.trans k.lp, fun x => k.mark (h.mark x)⟩
theorem KeepsB.of_others {l D : Nat} {W W' : World} (h : KeepsOthers W W') : KeepsB l D W W' := ⟨KeepsL.of_others h, fun x => h.same _ _ x rfl⟩
def postO {α : Type} (l D : Nat) (Kp : World → World → Prop) (I : List α → World → Prop) (Ix : Code → List α → World → Prop) (xs : List α) (W : World) : Exit → Act → World → Prop
  | .normal, _, W' => KeepsB l D W W' ∧ Kp W W' ∧ I xs W'
  | .ret, _, W' => KeepsB l D W W' ∧ Ix .ret xs W'
  | .exit id, _, W' => KeepsB l D W W' ∧ Ix (.exit id) xs W'
  | .goto t, _, W' => KeepsB l D W W' ∧ Ix (.goto t) xs W'
  | .panic _, _, _ => False
  | .outgrown, _, _ => False
theorem wpIn_rangeO {α : Type} {g : Operand} {ps : Array Tmp} {assign body : Code} {Q : Exit → Act → World → Prop} {a : Act} {w : World}
    (hro : F.round = none) (h1 : 1 ≤ n) {gf : Nat} {lb : Array Value} (hg : a.eval g = .func (.func gf) #[] lb) (hFg : F.fn gf) (eg : ∀ args w, (callFunc gf args).run P w = .ok (.enter gf args) w)
    {encs : α → Array Value} {R : World → Nat → Prop} {Kp : World → World → Prop} {S Sp : List α → Prop} {N : Nat} (hseq : ∀ o, SeqR F (n - 1) P gf lb encs R Kp S Sp N ((w.alloc (.deferred (some []))).alloc (.loop o)))
    (hKt : ∀ {A B C : World}, Kp A B → Kp B C → Kp A C) (hKb : ∀ (W : World) (o o' : Loop), W.heap[w.heap.size + 1]? = some (.loop o) → Kp W (W.putObj (w.heap.size + 1) (.loop o'))) (hps : ∀ x, (encs x).size = ps.size)
    (I : List α → World → Prop) (Ix : Code → List α → World → Prop) (hI : AbR (w.heap.size + 1) R I) (hIx : ∀ c, AbR (w.heap.size + 1) R (Ix c)) (h0 : ∀ o, I [] ((w.alloc (.deferred (some []))).alloc (.loop o))) (Ax : α → Act → World → Prop) (hAx : ∀ x a' (W : World) (o o' : Loop), Ax x a' W → W.heap[w.heap.size + 1]? = some (.loop o) → Ax x a' (W.putObj (w.heap.size + 1) (.loop o')))
    (hassign : ∀ (pre : List α) (x : α) (W : World) (K : Act → World → Prop), I pre W → pre.length < N → (∃ o, W.heap[w.heap.size + 1]? = some (.loop o)) → W.heap[w.heap.size]? = some (.deferred (some [])) → (∀ a' W', KeepsB (w.heap.size + 1) w.heap.size W W' → Kp W W' → I pre W' → Ax x a' W' → K a' W') →
      assign.wpIn (F.inRound (w.heap.size + 1)) (n - 1 - 1) P (Exit.then K (fun _ _ _ => False)) { tmps := (ps.zip (encs x)).foldl (fun t (p, v) => t.setIfInBounds p v) a.tmps, defers := [] } W)
    (hbody : ∀ (pre : List α) (x : α) (a' : Act) (W : World), (∃ o, W.heap[w.heap.size + 1]? = some (.loop o) ∧ o.defers = w.heap.size) → W.heap[w.heap.size]? = some (.deferred (some [])) → I pre W → Ax x a' W → pre.length < N → body.wpIn (F.inRound (w.heap.size + 1)) (n - 1 - 1) P (postO (w.heap.size + 1) w.heap.size Kp I Ix (pre ++ [x]) W) a' W)
    (hdone : ∀ (xs : List α) (W : World), S xs → I xs W → W.heap[w.heap.size]? = some (.deferred (some [])) → Q .normal { a with defers := { target := .collected w.heap.size, args := #[] } :: a.defers } W)
    (hstop : ∀ (c : Code) (pre : List α) (W : World), Sp pre → Ix c pre W → W.heap[w.heap.size]? = some (.deferred (some [])) → c.wpIn F n P Q { a with defers := { target := .collected w.heap.size, args := #[] } :: a.defers } W) :
    (Code.rangeFunc g ps assign body).wpIn F n P Q a w := by
  have hD : ∀ o, ((w.alloc (.deferred (some []))).alloc (.loop o)).heap[w.heap.size]? = some (.deferred (some [])) := fun o => (Below.heap_alloc _ _ _ (by simp)).trans (World.alloc_heap_new w _)
  have ab : ∀ {I' : List α → World → Prop}, AbR (w.heap.size + 1) R I' → AbR (w.heap.size + 1) R (fun pre W => I' pre W ∧ W.heap[w.heap.size]? = some (.deferred (some []))) := fun h s A B row hs hg hr =>
    ⟨h s A B row hs.1 hg hr, (hg.block _ (Array.getElem?_eq_some_iff.1 hs.2).1 (fun e => by
      rcases hr _ e.symm with ⟨e2, _⟩ | ⟨_, o, ho, hc⟩
      · omega
      · rw [hs.2] at ho; cases ho; cases hc)).trans hs.2⟩
  refine wpIn_rangeR h1 hg hFg eg (w.heap.size + 1) w.heap.size [{ target := .collected w.heap.size, args := #[] }] (w.alloc (.deferred (some []))) (fun fn => by rw [hro]; exact run_enterLoop_outer _ _ _ _ _) (by simp) hseq hKt hKb hps
    (fun pre W => I pre W ∧ W.heap[w.heap.size]? = some (.deferred (some []))) (fun c pre W => Ix c pre W ∧ W.heap[w.heap.size]? = some (.deferred (some []))) (ab hI) (fun c => ab (hIx c)) (fun o => ⟨h0 o, hD o⟩) Ax hAx ?_ ?_ ?_ ?_
  · intro pre x W K hi hlen hr hK
    exact hassign pre x W K hi.1 hlen hr hi.2 fun a' W' hb hkp hi' hax => hK a' W' hb.lp hkp ⟨hi', hb.mark hi.2⟩ hax
  · intro pre x a' W hr hi hax hlen
    refine wpIn_mono (hbody pre x a' W hr hi.2 hi.1 hax hlen) ?_
    rintro e a3 W3 hp
    cases e with
    | normal => exact ⟨hp.1.lp, hp.2.1, hp.2.2, hp.1.mark hi.2⟩
    | ret => exact ⟨hp.1.lp, hp.2, hp.1.mark hi.2⟩
    | exit id => exact ⟨hp.1.lp, hp.2, hp.1.mark hi.2⟩
    | goto t => exact ⟨hp.1.lp, hp.2, hp.1.mark hi.2⟩
    | panic ch => exact hp.elim
    | outgrown => exact hp.elim
  · exact fun xs W hS hi => hdone xs W hS hi.1 hi.2
  · exact fun c pre W hS hi => hstop c pre W hS hi.1 hi.2
end Go.Proofs.YtjbcfdgnafmbkaaDoor
end
