/- Lemmas, walks and printed functions for the claim. -/
import Derived.Test.YtjbcfdgnafmbkaaDoorSDOM11
import Derived.Deep.RegionLaw
import Derived.Laws.CopyOwn
import Derived.RegionTactic
import Derived.StillTailTactics
section
set_option linter.unusedVariables false
namespace Go.Proofs.YtjbcfdgnafmbkaaDoor.Sha
open Go.RowKit Go.Proofs.YtjbcfdgnafmbkaaDoor
def stV (s : St) : List Nat := [s.a, s.b, s.c, s.d, s.e, s.f, s.g, s.h]
structure Laid (w : World) : Prop where
  h : ∀ i, i < 8 → w.cell? ⟨0, i, none⟩ = some (.int .u32 ((stV H0).getD i 0 : Nat))
  k : ∀ i, i < 64 → w.cell? ⟨1, i, none⟩ = some (.int .u32 (K.getD i 0 : Nat))
theorem Laid.grown {A B : World} {row : Option Nat} (h : Laid A) (g : A.grownBy B row) (hr : ∀ r, row = some r → 2 ≤ r) : Laid B :=
  ⟨fun i hi => cell_grown g (h.h i hi) (fun r e e2 => by have := hr r e; simp at e2; omega), fun i hi => cell_grown g (h.k i hi) (fun r e e2 => by have := hr r e; simp at e2; omega)⟩
theorem add_at (V j : Nat) : ((⟨V, 0, none⟩ : Addr).add j) = ⟨V, 0 + j, none⟩ := by
  unfold Addr.add; split <;> simp_all
theorem cut_set (xs ys : List Nat) (i : Nat) (h : i < xs.length) (he : xs.length = ys.length) : (xs.take i ++ ys.drop i).set i (xs.getD i 0) = xs.take (i + 1) ++ ys.drop (i + 1) := by
  refine List.ext_getElem (by simp; omega) fun j h1 h2 => ?_
  simp only [List.getElem_set, List.getElem_append, List.getElem_take, List.getElem_drop, List.length_take]
  by_cases e : i = j
  · subst e; simp only [h, List.getD, if_pos, List.getElem?_eq_getElem, Option.getD_some]; rw [dif_pos (by omega)]
  · simp only [if_neg e]
    split <;> split <;> first | rfl | (exfalso; omega) | (congr 1; omega)
theorem cut_get (xs ys : List Nat) (i : Nat) (h : i ≤ xs.length) : (xs.take i ++ ys.drop i).getD i 0 = ys.getD i 0 := by
  simp [List.getD, List.getElem?_append, Nat.min_eq_left h]
theorem stV_add (s t : St) (i : Nat) (h : i < 8) : (stV (s.add t)).getD i 0 = add ((stV s).getD i 0) ((stV t).getD i 0) := by
  match i, h with
  | 0, _ => rfl
  | 1, _ => rfl
  | 2, _ => rfl
  | 3, _ => rfl
  | 4, _ => rfl
  | 5, _ => rfl
  | 6, _ => rfl
  | 7, _ => rfl
set_option maxHeartbeats 1000000 in
set_option maxRecDepth 100000 in
theorem absorb_c (S bb off len cap : Nat) (st : St) (hst : st.ok) (l : List Nat) (hl : l.length = 64) (hb : ∀ x ∈ l, x < 256) (w : World) (hS : Arr w S 134 (ints .u32 (stV st)))
    (hblk : ∀ j, j < 64 → w.cell? ⟨bb, off + j, none⟩ = some (.int .u8 (l.getD j 0 : Nat))) (h64 : 64 ≤ len) (hlc : len ≤ cap) (hcap : cap ≤ 9223372036854775807) (hL : Laid w) (hS2 : 2 ≤ S) :
    Calls Tryd.prog 95 #[.pointer (some ⟨S, 0, none⟩), .slice (some ⟨bb, off, none⟩) len cap] w fun e w' => e = .returned (.tuple #[]) ∧ Arr w' S 134 (ints .u32 (stV (absorb st l))) ∧ w.grownBy w' (some S) := by
  have HBLK := Lib.hid hblk
  have HL := Lib.hid hL
  have HS := Lib.hid hS
  have HB := Lib.hid hb
  have HLEN := Lib.hid hl
  clear hblk hL hS hb hl
  go_enter Tryd.func95, Tryd.ntmps95
  go_wp2
  generalize hW1 : w.alloc _ = W1
  have hA : Arr W1 w.heap.size 172 (ints .u32 (List.replicate 64 0)) := by rw [← hW1]; exact Arr.new w 172 (ints .u32 (List.replicate 64 0))
  have hg : w.grownBy W1 none := by rw [← hW1]; exact World.grownBy_alloc w _ none
  clear hW1
  go_loopw [14] (fun v w' => ∃ t : Nat, t ≤ 16 ∧ v = .int .i64 t ∧ Arr w' w.heap.size 172 (ints .u32 (words0 l t)) ∧ w.grownBy w' none) (fun v _ => 16 - (intOf v).toNat)
  case atStart => exact ⟨0, by omega, rfl, hA, hg⟩
  case round =>
    clear hA hg
    obtain ⟨t, ht, rfl, hA, hg⟩ := hrel
    by_cases hlt : t < 16
    · have hcw : ∀ j, j < 4 → wr.cell? ⟨bb, off + 4 * t + j, none⟩ = some (.int .u8 (l.getD (4 * t + j) 0 : Nat)) := fun j hj => by
        rw [Nat.add_assoc]; exact cell_grown hg (HBLK.out (4 * t + j) (by omega)) (fun r e => by cases e)
      have hword := word_c bb (off + 4 * t) (len - 4 * t) (cap - 4 * t) l (4 * t) HB.out wr (by omega) (by omega) hcw
      have HWC := Lib.hid hword
      have hc := hA.cell (ints_get .u32 (words0 l t) (j := t) (by rw [words0_length]; omega))
      have hf := hA.frozen t
      have hs := hA.set t (.int .u32 (word4 l (4 * t) : Nat))
      rw [ints_set] at hs
      have HSET := Lib.hid hs
      clear hcw hword hs
      go_wp2_with fail
      refine HWC.out.mono ?_; rintro e w' ⟨rfl, rfl⟩
      go_wp2
      go_roundw
      case rel => exact ⟨t + 1, by omega, by go_num, HSET.out, grown_new hg (Nat.le_refl _) _ _⟩
      case measure => simp [intOf]; omega
    · have : t = 16 := by omega
      subst this
      go_wp2
      rw [show ((16 : Nat) : Int) = 16 from rfl]
      go_loopg [6] 49 (fun g v w' => ∃ t : Nat, 16 ≤ t ∧ t ≤ 64 ∧ v = .int .i64 t ∧ Arr w' w.heap.size 172 (ints .u32 (words1 l (t - 16))) ∧ w.grownBy w' none ∧ 64 - t < g)
      case atStart => exact ⟨16, by omega, by omega, rfl, hA, hg, by omega⟩
      case round =>
        clear hA hg
        obtain ⟨t, ht0, ht, rfl, hA, hg, hgk⟩ := hrel
        by_cases hlt : t < 64
        · have wl := words1_length l (t - 16)
          have gl := fun j => words1_lt HB.out (t - 16) j
          obtain ⟨i16, j16⟩ : ∃ i, i = t - 16 := ⟨_, rfl⟩
          obtain ⟨i15, j15⟩ : ∃ i, i = t - 15 := ⟨_, rfl⟩
          obtain ⟨i7, j7⟩ : ∃ i, i = t - 7 := ⟨_, rfl⟩
          obtain ⟨i2, j2⟩ : ∃ i, i = t - 2 := ⟨_, rfl⟩
          have w16 : IntKind.i64.wrap ((t : Int) - 16) = (i16 : Int) := by rw [IntKind.wrap_i64]; omega
          have w15 : IntKind.i64.wrap ((t : Int) - 15) = (i15 : Int) := by rw [IntKind.wrap_i64]; omega
          have w7 : IntKind.i64.wrap ((t : Int) - 7) = (i7 : Int) := by rw [IntKind.wrap_i64]; omega
          have w2 : IntKind.i64.wrap ((t : Int) - 2) = (i2 : Int) := by rw [IntKind.wrap_i64]; omega
          have b16 : (i16 : Int) < 64 := by omega
          have b15 : (i15 : Int) < 64 := by omega
          have b7 : (i7 : Int) < 64 := by omega
          have b2 : (i2 : Int) < 64 := by omega
          have b0 : (t : Int) < 64 := by omega
          have c16 := hA.cell (ints_get .u32 (words1 l (t - 16)) (j := i16) (by omega))
          have c15 := hA.cell (ints_get .u32 (words1 l (t - 16)) (j := i15) (by omega))
          have c7 := hA.cell (ints_get .u32 (words1 l (t - 16)) (j := i7) (by omega))
          have c2 := hA.cell (ints_get .u32 (words1 l (t - 16)) (j := i2) (by omega))
          have ct := hA.cell (ints_get .u32 (words1 l (t - 16)) (j := t) (by omega))
          have hf := hA.frozen t
          have g16 := gl i16; have g15 := gl i15; have g7 := gl i7; have g2 := gl i2
          have hs := hA.set t (.int .u32 (nextW (words1 l (t - 16)) t : Nat))
          rw [ints_set] at hs
          have hs2 : Hid (Arr (wr.setCell ⟨w.heap.size, t, none⟩ (.int .u32 (nextW (words1 l (t - 16)) t : Nat))) w.heap.size 172 (ints .u32 (words1 l (t + 1 - 16)))) := Lib.hid (by
            rw [show t + 1 - 16 = (t - 16) + 1 from by omega, words1, show 16 + (t - 16) = t from by omega]; exact hs)
          have hn : Hid (nextW (words1 l (t - 16)) t = add (add (add ((words1 l (t - 16)).getD i16 0) (s0 ((words1 l (t - 16)).getD i15 0))) ((words1 l (t - 16)).getD i7 0)) (s1 ((words1 l (t - 16)).getD i2 0))) := Lib.hid (by rw [j16, j15, j7, j2]; rfl)
          clear hs gl wl j16 j15 j7 j2
          generalize (words1 l (t - 16)).getD i16 0 = x16 at *
          generalize (words1 l (t - 16)).getD i15 0 = x15 at *
          generalize (words1 l (t - 16)).getD i7 0 = x7 at *
          generalize (words1 l (t - 16)).getD i2 0 = x2 at *
          generalize (words1 l (t - 16)).getD t 0 = xt at *
          generalize nextW (words1 l (t - 16)) t = nw at *
          clear hA
          go_wp2
          go_quiet (fail)
          go_wp2
          generalize hw3 : wr.drewN _ = w3
          have d16 : w3.cell? ⟨w.heap.size, i16, none⟩ = some (.int .u32 x16) := by rw [← hw3]; exact c16
          have d7 : w3.cell? ⟨w.heap.size, i7, none⟩ = some (.int .u32 x7) := by rw [← hw3]; exact c7
          have dt : w3.cell? ⟨w.heap.size, t, none⟩ = some (.int .u32 xt) := by rw [← hw3]; exact ct
          have df : w3.frozen? ⟨w.heap.size, t, none⟩ = false := by rw [← hw3]; exact hf
          have HW3 := Lib.hid hw3
          clear hw3 c16 c15 c7 c2 ct hf
          have e1 := u32_xor_nat (ror x15 7) (ror x15 18) (ror_lt g15) (ror_lt g15)
          have e2 : bits .xor .u32 ((ror x15 7 ^^^ ror x15 18 : Nat) : Int) ((x15 : Int) / 8) = (s0 x15 : Nat) := u32_xor_nat (ror x15 7 ^^^ ror x15 18) (x15 / 8) (xor_lt (ror_lt g15) (ror_lt g15)) (by omega)
          have e3 := u32_xor_nat (ror x2 17) (ror x2 19) (ror_lt g2) (ror_lt g2)
          have e4 : bits .xor .u32 ((ror x2 17 ^^^ ror x2 19 : Nat) : Int) ((x2 : Int) / 1024) = (s1 x2 : Nat) := u32_xor_nat (ror x2 17 ^^^ ror x2 19) (x2 / 1024) (xor_lt (ror_lt g2) (ror_lt g2)) (by omega)
          go_still_tail 28, (by kernel_rfl)
          still_call ((rotl_c x15 7 g15 (by decide) (by decide) _).mono fun e w' h => ⟨h.1, h.2.symm⟩)
          repeat still_step
          still_call ((rotl_c x15 18 g15 (by decide) (by decide) _).mono fun e w' h => ⟨h.1, h.2.symm⟩)
          repeat still_step
          still_call ((rotl_c x2 17 g2 (by decide) (by decide) _).mono fun e w' h => ⟨h.1, h.2.symm⟩)
          repeat still_step
          still_call ((rotl_c x2 19 g2 (by decide) (by decide) _).mono fun e w' h => ⟨h.1, h.2.symm⟩)
          repeat still_step
          refine wpStill_nil ?_
          change wpList _ _ _ _ _ w3.drew
          have hg3 : Hid (w.grownBy w3.drew none) := Lib.hid (by rw [← HW3.out]; exact grown_drew (grown_drewN hg _))
          have hs3 : Hid (Arr (w3.setCell ⟨w.heap.size, t, none⟩ (.int .u32 (((x16 : Int) + (s0 x15 : Nat) + x7 + (s1 x2 : Nat)) % 4294967296))).drew w.heap.size 172 (ints .u32 (words1 l (t + 1 - 16)))) := Lib.hid (by
            rw [← HW3.out, show ((x16 : Int) + (s0 x15 : Nat) + x7 + (s1 x2 : Nat)) % 4294967296 = (nw : Int) by rw [hn.out]; unfold add; omega]; exact hs2.out)
          clear hs2 hg
          go_wp2
          go_roundg (64 - t)
          case rel => exact ⟨t + 1, by omega, by omega, by go_num, hs3.out, grown_new hg3.out (Nat.le_refl _) _ _, by omega⟩
          case measure => omega
        · have : t = 64 := by omega
          subst this
          have h0 := HS.out
          have hS := h0.kept hg (by simp)
          have q0 : wr.cell? ⟨S, 0, none⟩ = some (.int .u32 st.a) := hS.cell rfl
          have q1 : wr.cell? ⟨S, 1, none⟩ = some (.int .u32 st.b) := hS.cell rfl
          have q2 : wr.cell? ⟨S, 2, none⟩ = some (.int .u32 st.c) := hS.cell rfl
          have q3 : wr.cell? ⟨S, 3, none⟩ = some (.int .u32 st.d) := hS.cell rfl
          have q4 : wr.cell? ⟨S, 4, none⟩ = some (.int .u32 st.e) := hS.cell rfl
          have q5 : wr.cell? ⟨S, 5, none⟩ = some (.int .u32 st.f) := hS.cell rfl
          have q6 : wr.cell? ⟨S, 6, none⟩ = some (.int .u32 st.g) := hS.cell rfl
          have q7 : wr.cell? ⟨S, 7, none⟩ = some (.int .u32 st.h) := hS.cell rfl
          have hVB := hA.lt
          have hVg := hg.size
          go_wp2
          clear q0 q1 q2 q3 q4 q5 q6 q7
          obtain ⟨V, hV⟩ : ∃ V, V = wr.heap.size := ⟨_, rfl⟩
          generalize hW2 : wr.alloc _ = W2
          have hV2 : Arr W2 V 134 (ints .u32 (stV st)) := by rw [hV, ← hW2]; exact Arr.new wr 134 (ints .u32 (stV st))
          have hA2 : Arr W2 w.heap.size 172 (ints .u32 (words1 l 48)) := by rw [← hW2]; exact hA.alloc _
          have hg2 : w.grownBy W2 none := by rw [← hW2]; exact grown_alloc hg _
          rw [← hV]
          have HV1 : w.heap.size ≤ V := by omega
          have HV2 : w.heap.size ≠ V := by omega
          have wl := fun j => words1_lt HB.out 48 j
          have wlen := words1_length l 48
          obtain ⟨fin, hfin⟩ : ∃ f, f = absorb st l := ⟨_, rfl⟩
          have HWS := Lib.hid (show fin = st.add (rnds K (words1 l 48) st 64) from hfin)
          have HFIN := Lib.hid hfin
          clear hfin
          clear hW2 hV hA hg hVB hVg hS h0
          generalize words1 l 48 = ws at *
          have HWL := Lib.hid wl
          have HWN := Lib.hid wlen
          clear wl wlen
          go_loopg [69] 65 (fun g v w' => ∃ t : Nat, t ≤ 64 ∧ v = .int .i64 t ∧ Arr w' V 134 (ints .u32 (stV (rnds K ws st t))) ∧ Arr w' w.heap.size 172 (ints .u32 ws) ∧ w.grownBy w' none ∧ 64 - t < g)
          case atStart => exact ⟨0, by omega, rfl, hV2, hA2, hg2, by omega⟩
          case round =>
            clear hV2 hA2 hg2
            obtain ⟨t, ht, rfl, hV, hA, hg, hgk⟩ := hrel
            by_cases hlt : t < 64
            · have hok := rnds_ok hst K ws t
              have hk := cell_grown hg (HL.out.k t hlt) (fun r e => by cases e)
              have hw := hA.cell (ints_get .u32 ws (j := t) (by rw [HWN.out]; exact hlt))
              have wlt := HWL.out t
              have HN : Hid (rnds K ws st (t + 1) = rnd (rnds K ws st t) (K.getD t 0) (ws.getD t 0)) := Lib.hid rfl
              generalize rnds K ws st t = sv at *
              generalize ws.getD t 0 = wt at *
              generalize K.getD t 0 = kt at *
              obtain ⟨a, b, c, d, e, f, g, h⟩ := sv
              obtain ⟨o1, o2, o3, o4, o5, o6, o7, o8⟩ := hok
              simp only at o1 o2 o3 o4 o5 o6 o7 o8
              have q0 : wr.cell? ⟨V, 0, none⟩ = some (.int .u32 a) := hV.cell rfl
              have q1 : wr.cell? ⟨V, 1, none⟩ = some (.int .u32 b) := hV.cell rfl
              have q2 : wr.cell? ⟨V, 2, none⟩ = some (.int .u32 c) := hV.cell rfl
              have q3 : wr.cell? ⟨V, 3, none⟩ = some (.int .u32 d) := hV.cell rfl
              have q4 : wr.cell? ⟨V, 4, none⟩ = some (.int .u32 e) := hV.cell rfl
              have q5 : wr.cell? ⟨V, 5, none⟩ = some (.int .u32 f) := hV.cell rfl
              have q6 : wr.cell? ⟨V, 6, none⟩ = some (.int .u32 g) := hV.cell rfl
              have q7 : wr.cell? ⟨V, 7, none⟩ = some (.int .u32 h) := hV.cell rfl
              have b0 : (t : Int) < 64 := by omega
              have f1 := u32_xor_nat f g o6 o7
              have f2 := u32_and_nat e (f ^^^ g) o5 (xor_lt o6 o7)
              have f3 : bits .xor .u32 (g : Int) ((e &&& (f ^^^ g) : Nat) : Int) = (ch e f g : Nat) := u32_xor_nat g (e &&& (f ^^^ g)) o7 (and_lt o5)
              have f4 := u32_and_nat a b o1 o2
              have f5 := u32_or_nat a b o1 o2
              have f6 := u32_and_nat c (a ||| b) o3 (or_lt o1 o2)
              have f7 : bits .or .u32 ((a &&& b : Nat) : Int) ((c &&& (a ||| b) : Nat) : Int) = (mj a b c : Nat) := u32_or_nat (a &&& b) (c &&& (a ||| b)) (and_lt o1) (and_lt o3)
              have HVV := Lib.hid hV
              have HAA := Lib.hid hA
              have HGG := Lib.hid hg
              clear hV hA hg
              go_wp2
              go_quiet ((go_at_call 124; exact Calls.quiet_of_same ((rotated_S1 e o5 _).mono fun _ _ h => ⟨h.1, h.2.symm⟩)))
              go_wp2
              have hp : (((h : Int) + (S1 e : Nat) + (ch e f g : Nat) + kt) % 4294967296 + wt) % 4294967296 = (t1 ⟨a, b, c, d, e, f, g, h⟩ kt wt : Nat) := by
                show _ = ((add (add (add (add h (S1 e)) (ch e f g)) kt) wt : Nat) : Int)
                unfold add; omega
              rw [hp]
              clear hp f1 f2 f3 q0 q1 q2 q3 q4 q5 q6 q7 hk hw
              generalize hw3 : wr.drewN _ = w3
              have HV3 : Arr w3 V 134 (ints .u32 [a, b, c, d, e, f, g, h]) := by rw [← hw3]; exact HVV.out
              have HA3 : Arr w3 w.heap.size 172 (ints .u32 ws) := by rw [← hw3]; exact HAA.out
              have HG3 : w.grownBy w3 none := by rw [← hw3]; exact grown_drewN HGG.out _
              clear hw3 HVV HAA HGG
              have q0 : w3.cell? ⟨V, 0, none⟩ = some (.int .u32 a) := HV3.cell rfl
              have q1 : w3.cell? ⟨V, 1, none⟩ = some (.int .u32 b) := HV3.cell rfl
              have q2 : w3.cell? ⟨V, 2, none⟩ = some (.int .u32 c) := HV3.cell rfl
              have q3 : w3.cell? ⟨V, 3, none⟩ = some (.int .u32 d) := HV3.cell rfl
              have q4 : w3.cell? ⟨V, 4, none⟩ = some (.int .u32 e) := HV3.cell rfl
              have q5 : w3.cell? ⟨V, 5, none⟩ = some (.int .u32 f) := HV3.cell rfl
              have q6 : w3.cell? ⟨V, 6, none⟩ = some (.int .u32 g) := HV3.cell rfl
              have q7 : w3.cell? ⟨V, 7, none⟩ = some (.int .u32 h) := HV3.cell rfl
              have HVV := Lib.hid HV3
              have HAA := Lib.hid HA3
              have HGG := Lib.hid HG3
              clear HV3 HA3 HG3
              go_quiet ((go_at_call 124; exact Calls.quiet_of_same ((rotated_S0 a o1 _).mono fun _ _ h => ⟨h.1, h.2.symm⟩)))
              go_wp2
              have hp : ((S0 a : Nat) + (mj a b c : Nat) : Int) % 4294967296 = (t2 ⟨a, b, c, d, e, f, g, h⟩ : Nat) := by
                show _ = ((add (S0 a) (mj a b c) : Nat) : Int)
                unfold add; omega
              rw [hp]
              clear hp f4 f5 f6 f7 q0 q1 q2 q3 q4 q5 q6 q7
              generalize hw4 : w3.drewN _ = w4
              have HV3 : Arr w4 V 134 (ints .u32 [a, b, c, d, e, f, g, h]) := by rw [← hw4]; exact HVV.out
              have HA3 : Arr w4 w.heap.size 172 (ints .u32 ws) := by rw [← hw4]; exact HAA.out
              have HG3 : w.grownBy w4 none := by rw [← hw4]; exact grown_drewN HGG.out _
              clear hw4 HVV HAA HGG
              have q0 : w4.cell? ⟨V, 0, none⟩ = some (.int .u32 a) := HV3.cell rfl
              have q1 : w4.cell? ⟨V, 1, none⟩ = some (.int .u32 b) := HV3.cell rfl
              have q2 : w4.cell? ⟨V, 2, none⟩ = some (.int .u32 c) := HV3.cell rfl
              have q3 : w4.cell? ⟨V, 3, none⟩ = some (.int .u32 d) := HV3.cell rfl
              have q4 : w4.cell? ⟨V, 4, none⟩ = some (.int .u32 e) := HV3.cell rfl
              have q5 : w4.cell? ⟨V, 5, none⟩ = some (.int .u32 f) := HV3.cell rfl
              have q6 : w4.cell? ⟨V, 6, none⟩ = some (.int .u32 g) := HV3.cell rfl
              have q7 : w4.cell? ⟨V, 7, none⟩ = some (.int .u32 h) := HV3.cell rfl
              have z0 := HV3.frozen 0
              have z1 := HV3.frozen 1
              have z2 := HV3.frozen 2
              have z3 := HV3.frozen 3
              have z4 := HV3.frozen 4
              have z5 := HV3.frozen 5
              have z6 := HV3.frozen 6
              have z7 := HV3.frozen 7
              have HVV := Lib.hid HV3
              have HAA := Lib.hid HA3
              have HGG := Lib.hid HG3
              clear HV3 HA3 HG3
              have HN2 : Hid (ints .u32 (stV (rnds K ws st (t + 1))) = ints .u32 [add (t1 ⟨a, b, c, d, e, f, g, h⟩ kt wt) (t2 ⟨a, b, c, d, e, f, g, h⟩), a, b, c, add d (t1 ⟨a, b, c, d, e, f, g, h⟩ kt wt), e, f, g]) := Lib.hid (by rw [HN.out]; rfl)
              clear HN
              generalize t1 ⟨a, b, c, d, e, f, g, h⟩ kt wt = tp at *
              generalize t2 ⟨a, b, c, d, e, f, g, h⟩ = tq at *
              go_wp2
              have hcs : ∀ j v, (ints .u32 [a, b, c, d, e, f, g])[j]? = some v → w4.drew.cell? ((⟨V, 0, none⟩ : Addr).add j) = some v := by
                intro j v hj
                have hl : j < 7 := by
                  by_cases h7 : j < 7
                  · exact h7
                  · rw [List.getElem?_eq_none (by simp [ints]; omega)] at hj; simp at hj
                have := HVV.out.drew.cell (j := 0 + j) (v := v) (by
                  rw [← hj]
                  match j, hl with
                  | 0, _ => rfl
                  | 1, _ => rfl
                  | 2, _ => rfl
                  | 3, _ => rfl
                  | 4, _ => rfl
                  | 5, _ => rfl
                  | 6, _ => rfl)
                rw [add_at]
                exact this
              have hone : ∀ v ∈ ints .u32 [a, b, c, d, e, f, g], v.oneCell' = true := by simp [ints, Value.oneCell']
              go_region_law (refine step_copy_splice rfl (.tmp 116) (.tmp 117) 176 176 rfl 132 rfl rfl (some ⟨V, 1, none⟩) (some ⟨V, 0, none⟩) 7 7 7 8 rfl rfl V 1 (ints .u32 [a, b, c, d, e, f, g, h]) 134 HVV.out.drew (ints .u32 [a, b, c, d, e, f, g]) rfl (fun _ => ⟨rfl, ⟨V, 0, none⟩, rfl, hcs⟩) (by simp [ints]) hone V w4.drew (Below.refl _ _) (Nat.le_refl _) ?_; intro w5 hv5 hb5)
              have HV5 : Arr w5 V 134 (ints .u32 [a, a, b, c, d, e, f, g]) := hv5.out
              have HA5 : Arr w5 w.heap.size 172 (ints .u32 ws) := HAA.out.drew.below hb5 (by omega)
              have HG5 : w.grownBy w5 none := grown_below (grown_drew HGG.out) hb5 HV1
              clear hv5 hb5 HVV HAA HGG hcs hone z0 z1 z2 z3 z4 z5 z6 z7 q0 q1 q2 q3 q4 q5 q6 q7
              have q4 : w5.cell? ⟨V, 4, none⟩ = some (.int .u32 d) := HV5.cell rfl
              have q0 : w5.cell? ⟨V, 0, none⟩ = some (.int .u32 a) := HV5.cell rfl
              have z0 := HV5.frozen 0
              have z4 := HV5.frozen 4
              have hp : ((d : Int) + tp) % 4294967296 = (add d tp : Nat) := by unfold add; omega
              have hq : ((tp : Int) + tq) % 4294967296 = (add tp tq : Nat) := by unfold add; omega
              have HV6 := (HV5.set 4 (.int .u32 (add d tp : Nat))).set 0 (.int .u32 (add tp tq : Nat))
              have HA6 := (HA5.other (B' := V) HV2 4 (.int .u32 (add d tp : Nat))).other (B' := V) HV2 0 (.int .u32 (add tp tq : Nat))
              have HG6 := grown_new (grown_new HG5 HV1 4 (.int .u32 (add d tp : Nat))) HV1 0 (.int .u32 (add tp tq : Nat))
              have HVV := Lib.hid HV6
              have HAA := Lib.hid HA6
              have HGG := Lib.hid HG6
              clear HV5 HA5 HG5 HV6 HA6 HG6
              go_wp2
              go_roundg (64 - t)
              case rel =>
                refine ⟨t + 1, by omega, by go_num, ?_, HAA.out, HGG.out, by omega⟩
                rw [HN2.out]
                exact HVV.out
              case measure => omega
            · have : t = 64 := by omega
              subst this
              have hS := HS.out.kept hg (by simp)
              have HSL := HS.out.lt
              generalize rnds K ws st 64 = sv at *
              go_wp2
              have hg1 := grown_row_of_none hg (some S)
              clear hA hg
              rw [show ((64 : Nat) : Int) = 64 from rfl]
              go_loopg [129] 9 (fun g v w' => ∃ i : Nat, i ≤ 8 ∧ v = .int .i64 i ∧ Arr w' S 134 (ints .u32 ((stV fin).take i ++ (stV st).drop i)) ∧ Arr w' V 134 (ints .u32 (stV sv)) ∧ w.grownBy w' (some S) ∧ 8 - i < g)
              case atStart => exact ⟨0, by omega, rfl, hS, hV, hg1, by omega⟩
              case round =>
                clear hS hV hg1
                obtain ⟨i, hi, rfl, hS, hV, hg, hgk⟩ := hrel
                by_cases hlt : i < 8
                · have b0 : (i : Int) < 8 := by omega
                  have cS := hS.cell (ints_get .u32 ((stV fin).take i ++ (stV st).drop i) (j := i) (by simp [stV]; omega))
                  have fS := hS.frozen i
                  have cV := hV.cell (ints_get .u32 (stV sv) (j := i) (by simp [stV]; omega))
                  have hs := hS.set i (.int .u32 ((stV fin).getD i 0 : Nat))
                  rw [ints_set, cut_set (stV fin) (stV st) i (by simp [stV]; omega) (by simp [stV])] at hs
                  have hSV : V ≠ S := by omega
                  have hv := hV.other (B' := S) hSV i (.int .u32 ((stV fin).getD i 0 : Nat))
                  have hg' := grown_row hg i (.int .u32 ((stV fin).getD i 0 : Nat))
                  rw [cut_get (stV fin) (stV st) i (by simp [stV]; omega)] at cS
                  have he : (((stV st).getD i 0 : Nat) + ((stV sv).getD i 0 : Nat) : Int) % 4294967296 = ((stV fin).getD i 0 : Nat) := by
                    rw [HWS.out, stV_add st sv i hlt]; unfold add; omega
                  have HHS := Lib.hid hs
                  have HHV := Lib.hid hv
                  have HHG := Lib.hid hg'
                  clear hs hv hg' hS hV hg
                  generalize (stV st).getD i 0 = xi at *
                  generalize (stV sv).getD i 0 = yi at *
                  generalize (stV fin).getD i 0 = zi at *
                  go_wp2
                  go_still_tail 11, (by kernel_rfl)
                  repeat still_step
                  go_wp2
                  go_roundg (8 - i)
                  case rel => exact ⟨i + 1, by omega, by go_num, HHS.out.drew, HHV.out.drew, grown_drew HHG.out, by omega⟩
                  case measure => omega
                · have : i = 8 := by omega
                  subst this
                  go_wp2
                  go_end0
                  exact ⟨rfl, by rw [← HFIN.out]; exact hS, hg⟩
end Go.Proofs.YtjbcfdgnafmbkaaDoor.Sha
end
