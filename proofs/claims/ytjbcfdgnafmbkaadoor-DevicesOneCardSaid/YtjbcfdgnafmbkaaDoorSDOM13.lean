/- Lemmas, walks and printed functions for the claim. -/
import Derived.Test.YtjbcfdgnafmbkaaDoorSDOM12
import Derived.Deep.CutRange
section
set_option linter.unusedVariables false
namespace Go.Proofs.YtjbcfdgnafmbkaaDoor.Sha
open Go.RowKit Go.Proofs.YtjbcfdgnafmbkaaDoor
def Byt (w : World) (A : Option Addr) (l : List Nat) : Prop :=
  (∀ x ∈ l, x < 256) ∧ (0 < l.length → ∃ b o, A = some ⟨b, o, none⟩ ∧ ∀ j, j < l.length → w.cell? ⟨b, o + j, none⟩ = some (.int .u8 (l.getD j 0 : Nat)))
theorem blocks_step (l rest : List Nat) (st : St) (h : blocks (l.length / 64) H0 l = blocks (rest.length / 64) st rest) (hl : 64 ≤ rest.length) :
    blocks (l.length / 64) H0 l = blocks ((rest.drop 64).length / 64) (absorb st (rest.take 64)) (rest.drop 64) := by
  rw [h, List.length_drop, show rest.length / 64 = (rest.length - 64) / 64 + 1 from by omega]; rfl
theorem splice_pad (m : Nat) (rest : List Nat) : splice (ints .u8 (List.replicate m 0)) 0 (ints .u8 rest) = ints .u8 (rest ++ List.replicate (m - rest.length) 0) := by
  simp [splice, ints]
theorem putTo_get (ys : List Nat) (e n : Nat) (he : e ≤ ys.length) : ∀ i, i ≤ e → ∀ j, (putTo ys e n i)[j]? = if e - i ≤ j ∧ j < e then some (n / 2 ^ (8 * (e - 1 - j)) % 256) else ys[j]?
  | 0, _, j => by rw [if_neg (by omega)]; rfl
  | i + 1, hi, j => by
    rw [putTo, List.getElem?_set, putTo_length, putTo_get ys e n he i (by omega) j]
    by_cases h : e - 1 - i = j
    · subst h
      rw [if_pos rfl, if_pos (by omega), if_pos ⟨by omega, by omega⟩, show e - 1 - (e - 1 - i) = i from by omega]
    · rw [if_neg h]
      by_cases h2 : e - i ≤ j ∧ j < e
      · rw [if_pos h2, if_pos ⟨by omega, h2.2⟩]
      · rw [if_neg h2, if_neg (by omega)]
theorem be8_get (n : Nat) : ∀ j, j < 8 → (be8 n)[j]? = some (n / 2 ^ (8 * (7 - j)) % 256)
  | 0, _ => rfl
  | 1, _ => rfl
  | 2, _ => rfl
  | 3, _ => rfl
  | 4, _ => rfl
  | 5, _ => rfl
  | 6, _ => rfl
  | 7, _ => by simp [be8]
theorem pad_eq (rest : List Nat) (len n : Nat) (h : (n = 64 ∧ rest.length ≤ 55) ∨ (n = 128 ∧ 55 < rest.length ∧ rest.length < 64)) :
    (putTo ((rest ++ List.replicate (128 - rest.length) 0).set rest.length 128) n (len * 8) 8).take n = tail rest len := by
  refine List.ext_getElem? fun j => ?_
  have hl : ((rest ++ List.replicate (128 - rest.length) 0).set rest.length 128).length = 128 := by simp; omega
  rw [List.getElem?_take, putTo_get _ n (len * 8) (by omega) 8 (by omega) j, tail]
  simp only [List.append_assoc]
  by_cases h1 : j < rest.length
  · rw [if_pos (by omega), if_neg (by omega), List.getElem?_set, if_neg (by omega), List.getElem?_append_left h1, List.getElem?_append_left h1]
  · rw [List.getElem?_append_right (l₁ := rest) (by omega)]
    by_cases h2 : j = rest.length
    · subst h2
      rw [if_pos (by omega), if_neg (by omega), List.getElem?_set, if_pos rfl, if_pos (by simp; omega), Nat.sub_self]; rfl
    · rw [List.getElem?_append_right (l₁ := [128]) (by simp; omega), List.length_singleton]
      by_cases h3 : j < n - 8
      · rw [if_pos (by omega), if_neg (by omega), List.getElem?_set, if_neg (by omega), List.getElem?_append_right (by omega), List.getElem?_replicate, if_pos (by omega),
          List.getElem?_append_left (by rw [List.length_replicate]; split <;> omega), List.getElem?_replicate, if_pos (by split <;> omega)]
      · rw [List.getElem?_append_right (by rw [List.length_replicate]; split <;> omega), List.length_replicate]
        have e1 : j - rest.length - 1 - ((if rest.length ≤ 55 then 55 else 119) - rest.length) = j - (n - 8) := by split <;> omega
        rw [e1]
        by_cases h4 : j < n
        · rw [if_pos h4, if_pos ⟨by omega, h4⟩, be8_get _ _ (by omega), show 7 - (j - (n - 8)) = n - 1 - j from by omega]
        · rw [if_neg h4, List.getElem?_eq_none (by show 8 ≤ _; omega)]
theorem tail_length (rest : List Nat) (len : Nat) (n : Nat) (h : (n = 64 ∧ rest.length ≤ 55) ∨ (n = 128 ∧ 55 < rest.length ∧ rest.length < 64)) : (tail rest len).length = n := by
  rw [← pad_eq rest len n h, List.length_take, putTo_length]; simp; omega
theorem be8_lt (n : Nat) : ∀ x ∈ be8 n, x < 256 := by
  intro x hx
  simp only [be8, List.mem_cons, List.not_mem_nil, or_false] at hx
  rcases hx with rfl | rfl | rfl | rfl | rfl | rfl | rfl | rfl <;> exact Nat.mod_lt _ (by decide)
theorem tail_lt (rest : List Nat) (len : Nat) (h : ∀ x ∈ rest, x < 256) : ∀ x ∈ tail rest len, x < 256 := by
  intro x hx
  simp only [tail, List.mem_append] at hx
  rcases hx with ((hx | hx) | hx) | hx
  · exact h x hx
  · rw [List.mem_singleton.1 hx]; decide
  · rw [(List.mem_replicate.1 hx).2]; decide
  · exact be8_lt _ x hx
theorem pad_get (ys t : List Nat) (n : Nat) (h : ys.take n = t) (j : Nat) (hj : j < n) : t.getD j 0 = ys.getD j 0 := by
  rw [← h]; simp [List.getD, hj]
theorem bytes_put (a b c d e f g h : Nat) : putTo (putTo (putTo (putTo (putTo (putTo (putTo (putTo (List.replicate 32 0) (0 + 4) a 4) (4 + 4) b 4) (8 + 4) c 4) (12 + 4) d 4) (16 + 4) e 4) (20 + 4) f 4) (24 + 4) g 4) (28 + 4) h 4 = bytes ⟨a, b, c, d, e, f, g, h⟩ := by
  simp [putTo, bytes, be4, List.replicate]
set_option maxHeartbeats 4000000 in
set_option maxRecDepth 100000 in
theorem sum_c (A : Option Addr) (cap : Nat) (l : List Nat) (w : World) (hA : Byt w A l) (hlen : l.length ≤ cap) (hcap : cap ≤ 9223372036854775807) (hsm : l.length ≤ 1125899906842624) (hL : Laid w) (h2 : 2 ≤ w.heap.size) :
    Calls Tryd.prog 57 #[.slice A l.length cap] w fun e w' => e = .returned (.agg (ints .u8 (sum l)).toArray) ∧ w.grownBy w' none := by
  have HL := Lib.hid hL
  have HB := Lib.hid hA
  clear hL hA
  go_enter Tryd.func57, Tryd.ntmps57
  have hlo : ∀ o : Obj, Laid (w.alloc o) := fun o => HL.out.grown (World.grownBy_alloc w o none) (by simp)
  have q0 : ∀ o : Obj, (w.alloc o).cell? ⟨0, 0, none⟩ = some (.int .u32 1779033703) := fun o => (hlo o).h 0 (by decide)
  have q1 : ∀ o : Obj, (w.alloc o).cell? ⟨0, 1, none⟩ = some (.int .u32 3144134277) := fun o => (hlo o).h 1 (by decide)
  have q2 : ∀ o : Obj, (w.alloc o).cell? ⟨0, 2, none⟩ = some (.int .u32 1013904242) := fun o => (hlo o).h 2 (by decide)
  have q3 : ∀ o : Obj, (w.alloc o).cell? ⟨0, 3, none⟩ = some (.int .u32 2773480762) := fun o => (hlo o).h 3 (by decide)
  have q4 : ∀ o : Obj, (w.alloc o).cell? ⟨0, 4, none⟩ = some (.int .u32 1359893119) := fun o => (hlo o).h 4 (by decide)
  have q5 : ∀ o : Obj, (w.alloc o).cell? ⟨0, 5, none⟩ = some (.int .u32 2600822924) := fun o => (hlo o).h 5 (by decide)
  have q6 : ∀ o : Obj, (w.alloc o).cell? ⟨0, 6, none⟩ = some (.int .u32 528734635) := fun o => (hlo o).h 6 (by decide)
  have q7 : ∀ o : Obj, (w.alloc o).cell? ⟨0, 7, none⟩ = some (.int .u32 1541459225) := fun o => (hlo o).h 7 (by decide)
  clear hlo
  go_wp2
  clear q0 q1 q2 q3 q4 q5 q6 q7
  generalize hW1 : w.alloc _ = W1
  have hD1 : Arr W1 w.heap.size 30 (ints .u8 (List.replicate 32 0)) := by rw [← hW1]; exact Arr.new w 30 (ints .u8 (List.replicate 32 0))
  have hg1 : w.grownBy W1 none := by rw [← hW1]; exact World.grownBy_alloc w _ none
  have hs1 : W1.heap.size = w.heap.size + 1 := by rw [← hW1]; simp
  clear hW1
  obtain ⟨D, hD⟩ : ∃ D, D = w.heap.size := ⟨_, rfl⟩
  obtain ⟨S, hS⟩ : ∃ S, S = w.heap.size + 1 := ⟨_, rfl⟩
  generalize hW2 : W1.alloc _ = W2
  have hS2 : Arr W2 S 134 (ints .u32 (stV H0)) := by rw [hS, ← hs1, ← hW2]; exact Arr.new W1 134 (ints .u32 (stV H0))
  have hD2 : Arr W2 D 30 (ints .u8 (List.replicate 32 0)) := by rw [hD, ← hW2]; exact hD1.alloc _
  have hg2 : w.grownBy W2 none := by rw [← hW2]; exact grown_alloc hg1 _
  have hs2 : W2.heap.size = S + 1 := by rw [← hW2, hS, ← hs1]; simp
  rw [← hS, ← hD]
  clear hW2 hD1 hg1 hs1
  have HSE := Lib.hid hS
  have HDE := Lib.hid hD
  have hS2' : 2 ≤ S := by omega
  have hSD : S ≠ D := by omega
  have hSw : w.heap.size ≤ S := by omega
  have hDw : w.heap.size ≤ D := by omega
  clear hS hD
  have HLEN := Lib.hid hlen
  have HCAP := Lib.hid hcap
  go_loopg [5] (l.length + 1) (fun g v w' => ∃ (st : St) (rest : List Nat) (B : Option Addr) (c : Nat), st.ok ∧ (∃ i, rest = l.drop (64 * i)) ∧ blocks (l.length / 64) H0 l = blocks (rest.length / 64) st rest ∧ rest.length % 64 = l.length % 64 ∧ Byt w B rest ∧ rest.length ≤ c ∧ c ≤ 9223372036854775807 ∧ v = .slice B rest.length c ∧
    Arr w' S 134 (ints .u32 (stV st)) ∧ Arr w' D 30 (ints .u8 (List.replicate 32 0)) ∧ w.grownBy w' none ∧ rest.length < g)
  case atStart => exact ⟨H0, l, A, cap, H0_ok, ⟨0, by simp⟩, rfl, rfl, HB.out, hlen, hcap, rfl, hS2, hD2, hg2, by omega⟩
  case round =>
    clear hS2 hD2 hg2
    obtain ⟨st, rest, B, c, hst, hi', hbl, hmod, hby, hlc, hcc, rfl, hSr, hDr, hg, hgk⟩ := hrel
    have HI := Lib.hid hi'
    have HBL := Lib.hid hbl
    clear hi' hbl
    by_cases hlt : 64 ≤ rest.length
    · obtain ⟨hb, hc⟩ := hby
      obtain ⟨b, o, rfl, hcell⟩ := hc (by omega)
      have hcell2 : ∀ j, j < 64 → wr.cell? ⟨b, o + j, none⟩ = some (.int .u8 ((rest.take 64).getD j 0 : Nat)) := fun j hj => by
        rw [cell_grown hg (hcell j (by omega)) (fun r e => by cases e)]
        simp [List.getD, hj]
      have hab := absorb_c S b o 64 c st hst (rest.take 64) (by simp; omega) (fun x hx => hb x (List.mem_of_mem_take hx)) wr hSr hcell2 (Nat.le_refl _) (by omega) hcc (HL.out.grown hg (by simp)) (by omega)
      have HAB := Lib.hid hab
      have HCELL := Lib.hid hcell
      clear hab hcell hcell2 hc
      have HHB := Lib.hid hb
      clear hb
      have t1 : decide ((64 : Int) ≤ (rest.length : Int)) = true := decide_eq_true (by omega)
      have t2 : (64 : Int) ≤ (c : Int) := by omega
      go_wp2_with fail
      refine HAB.out.mono ?_
      rintro e w' ⟨rfl, hS', hg'⟩
      have hD' := hDr.kept hg' (by simp; omega)
      have hgg := grown_trans_new hg hg' (by omega)
      clear HAB hSr hDr hg hg'
      have HHS := Lib.hid hS'
      have HHD := Lib.hid hD'
      have HHG := Lib.hid hgg
      clear hS' hD' hgg
      have HE := Lib.hid (blocks_step l rest st HBL.out hlt)
      have hdrop : ∃ i, rest.drop 64 = l.drop (64 * i) := by
        obtain ⟨i, hi⟩ := HI.out
        exact ⟨i + 1, by rw [hi, List.drop_drop, Nat.mul_add]⟩
      have HI2 := Lib.hid hdrop
      clear hdrop
      have hbd : ∀ x ∈ rest.drop 64, x < 256 := fun x hx => HHB.out x (List.mem_of_mem_drop hx)
      have HB2 := Lib.hid hbd
      clear hbd
      have hll : (rest.drop 64).length = rest.length - 64 := List.length_drop
      have HLL := Lib.hid hll
      clear hll
      have hy2 : rest.length = 64 ∨ c ≠ 64 := by omega
      go_wp2
      case inl =>
        go_roundg rest.length
        case measure => exact hgk
        case rel => exact ⟨_, rest.drop 64, some ⟨b, o, none⟩, c - 64, absorb_ok _ _, HI2.out, HE.out, by rw [HLL.out]; omega, ⟨HB2.out, fun h => by rw [HLL.out] at h; omega⟩, by rw [HLL.out]; omega, by omega, by rw [HLL.out, show c - 64 = 0 from by omega], HHS.out, HHD.out, HHG.out, by rw [HLL.out]; omega⟩
      case inr =>
        go_roundg rest.length
        case measure => exact hgk
        case rel => exact ⟨_, rest.drop 64, some ⟨b, o + 64, none⟩, c - 64, absorb_ok _ _, HI2.out, HE.out, by rw [HLL.out]; omega, ⟨HB2.out, fun _ => ⟨b, o + 64, rfl, fun j hj => by
          rw [Nat.add_assoc, HCELL.out (64 + j) (by rw [HLL.out] at hj; omega)]; simp [List.getD]⟩⟩, by rw [HLL.out]; omega, by omega, by rw [HLL.out], HHS.out, HHD.out, HHG.out, by rw [HLL.out]; omega⟩
    · have t1 : decide ((64 : Int) ≤ (rest.length : Int)) = false := decide_eq_false (by omega)
      have hmk : ∀ w, (Instr.makeSlice 22 (.int .i64 64) (.int .i64 128)).run Tryd.prog w = .ok (.slice (some ⟨w.heap.size, 0, none⟩) 64 128) (w.alloc (.cells (ints .u8 (List.replicate 128 0)).toArray 5)) := fun _ => by kernel_rfl
      have hEg := hg.size
      have hSl := hSr.lt
      have hDl := hDr.lt
      have hb1 := hby.1
      obtain ⟨o3, ho3⟩ : ∃ o3 : Obj, o3 = .cells (ints .u8 (List.replicate 128 0)).toArray 5 := ⟨_, rfl⟩
      have hE3 : (wr.alloc o3).heap[wr.heap.size]? = some (.cells (ints .u8 (List.replicate 128 0)).toArray 5 (0, 0)) := by rw [ho3]; exact Arr.new wr 5 (ints .u8 (List.replicate 128 0))
      rw [← ho3] at hmk
      clear ho3
      have hg3 := grown_alloc hg o3
      have hsrc : 0 < (ints .u8 rest).length → (some ⟨wr.heap.size, 0, none⟩ : Option Addr) = some ⟨wr.heap.size, 0, none⟩ ∧ ∃ ad, B = some ad ∧ ∀ j v, (ints .u8 rest)[j]? = some v → (wr.alloc o3).cell? (ad.add j) = some v := by
        intro hp
        rw [ints_length] at hp
        obtain ⟨b, o, hB, hcell⟩ := hby.2 hp
        refine ⟨rfl, _, hB, fun j v hj => ?_⟩
        have hjl : j < rest.length := by
          have := (List.getElem?_eq_some_iff.1 hj).1; rwa [ints_length] at this
        rw [ints_get .u8 rest hjl] at hj
        rw [← Option.some.inj hj, show (⟨b, o, none⟩ : Addr).add j = ⟨b, o + j, none⟩ from by unfold Addr.add; split <;> simp_all]
        exact cell_grown hg3 (hcell j hjl) (fun r e => by cases e)
      have hone : ∀ v ∈ ints .u8 rest, v.oneCell' = true := by simp [ints, Value.oneCell']
      have hn3 : (ints .u8 rest).length = Nat.min rest.length 64 := by rw [ints_length]; exact (Nat.min_eq_left (by omega)).symm
      have hf3 : 0 + (ints .u8 rest).length ≤ (ints .u8 (List.replicate 128 0)).length := by rw [ints_length, ints_length, List.length_replicate]; omega
      have HSRC := Lib.hid hsrc
      have HONE := Lib.hid hone
      have HN3 := Lib.hid hn3
      have HF3 := Lib.hid hf3
      have HE3 := Lib.hid hE3
      clear hsrc hone hn3 hf3 hE3
      have hAF : ∀ w4 : World, Hid (w4.heap[wr.heap.size]? = some (.cells (splice (ints .u8 (List.replicate 128 0)) 0 (ints .u8 rest)).toArray 5 (0, 0))) → Arr w4 wr.heap.size 5 (ints .u8 (rest ++ List.replicate (128 - rest.length) 0)) := by
        intro w4 h
        rw [← splice_pad]; exact h.out
      have HAF := Lib.hid hAF
      clear hAF
      have hwr : IntKind.u64.wrap ((l.length : Int) * 8) = ((l.length * 8 : Nat) : Int) := by rw [IntKind.wrap_u64]; omega
      have ltot : rest.length < 64 := by omega
      go_upto_if 31 with (with_reducible refine wpList_copy_splice rfl (.tmp 22) (.tmp 23) 22 22 rfl 5 rfl rfl (some ⟨wr.heap.size, 0, none⟩) B 64 128 rest.length c rfl rfl wr.heap.size 0 (ints .u8 (List.replicate 128 0)) 5 HE3.out (ints .u8 rest) HN3.out HSRC.out HF3.out HONE.out wr.heap.size (wr.alloc o3) (Below.refl _ _) (Nat.le_refl _) ?_; intro w4 hv4 hb4; have HA4 := HAF.out w4 hv4; have c4 := HA4.cell (ints_get .u8 (rest ++ List.replicate (128 - rest.length) 0) (j := rest.length) (by simp; omega)); have f4 := HA4.frozen rest.length; have HA5 := HA4.set rest.length (.int .u8 128); rw [show (Value.int .u8 128) = .int .u8 ((128 : Nat) : Int) from rfl, ints_set] at HA5; have HA5' := Lib.hid HA5; have HBE := Lib.hid hb4; clear hv4 hb4 HA5 HA4)
      rw [ints_length]
      clear HAF HE3 HF3 HN3 HONE HSRC hmk
      go_cut [6] from 32 to 33 (fun v6 wx => ∃ m, ((m = 56 ∧ rest.length ≤ 55) ∨ (m = 120 ∧ 55 < rest.length ∧ rest.length < 64)) ∧ v6 = .slice (some ⟨wr.heap.size, 0, none⟩) (m + 8) 128 ∧ wx = w4.setCell ⟨wr.heap.size, rest.length, none⟩ (.int .u8 128))
      case first =>
        by_cases h : rest.length ≤ 55
        · have t5 : decide ((55 : Int) < (rest.length : Int)) = false := decide_eq_false (by omega)
          go_wp2
          go_meet
          exact ⟨56, .inl ⟨rfl, h⟩, rfl, rfl⟩
        · have t5 : decide ((55 : Int) < (rest.length : Int)) = true := decide_eq_true (by omega)
          go_wp2
          go_meet
          exact ⟨120, .inr ⟨rfl, by omega, by omega⟩, rfl, rfl⟩
      case rest =>
        obtain ⟨m, hm, rfl, rfl⟩ := hcut
        obtain ⟨n, hnm⟩ : ∃ n, n = m + 8 := ⟨_, rfl⟩
        have hn : (n = 64 ∧ rest.length ≤ 55) ∨ (n = 128 ∧ 55 < rest.length ∧ rest.length < 64) := by omega
        have hpad := pad_eq rest l.length n hn
        have htl := tail_length rest l.length n hn
        have HPAD := Lib.hid hpad
        have HTL := Lib.hid htl
        have hfin : sum l = bytes (blocks (n / 64) st (tail rest l.length)) := by
          rw [sum, HBL.out, show rest.length / 64 = 0 from by omega, blocks]
          have e1 : rest = l.drop (64 * (l.length / 64)) := by
            obtain ⟨i, hi⟩ := HI.out
            have hrl : rest.length = l.length - 64 * i := by rw [hi, List.length_drop]
            by_cases hr : rest.length = 0
            · rw [List.eq_nil_of_length_eq_zero hr, List.drop_eq_nil_of_le]
              omega
            · rw [show l.length / 64 = i from by omega, hi]
          rw [← e1, ← hmod, show (if rest.length % 64 ≤ 55 then 1 else 2) = n / 64 from by
            rcases hn with ⟨rfl, h⟩ | ⟨rfl, h, h3⟩
            · rw [if_pos (by omega)]
            · rw [if_neg (by omega)]]
        have HFIN := Lib.hid hfin
        have hm2 : m ≤ 120 := by omega
        have hm3 : 8 ≤ m := by omega
        have hn2 : n ≤ 128 ∧ n % 64 = 0 := by omega
        clear hpad htl hfin hn hby hm
        have e8 : IntKind.i64.wrap (((m + 8 : Nat) : Int) - 8) = (m : Int) := by rw [IntKind.wrap_i64]; omega
        subst hnm
        go_wp2_with fail
        have hlt3 : S < wr.heap.size := hSl
        have hS5 := (((hSr.alloc o3).below HBE.out (by omega)).other (B' := wr.heap.size) (by omega) rest.length (.int .u8 128))
        have hD5 := (((hDr.alloc o3).below HBE.out (by omega)).other (B' := wr.heap.size) (by omega) rest.length (.int .u8 128))
        have hg5 : w.grownBy (w4.setCell ⟨wr.heap.size, rest.length, none⟩ (.int .u8 128)) none := grown_new (grown_below hg3 HBE.out hEg) hEg _ _
        have hA5 := HA5'.out
        have hyl : ((rest ++ List.replicate (128 - rest.length) 0).set rest.length 128).length = 128 := by simp; omega
        have HYL := Lib.hid hyl
        clear HA5' HBE hg3 hSr hDr hg hyl
        generalize w4.setCell _ _ = w5 at *
        have hSE : S ≠ wr.heap.size := by omega
        have hDE : D ≠ wr.heap.size := by omega
        generalize wr.heap.size = E at *
        rw [show ((l.length : Int) * 8) = ((l.length * 8 : Nat) : Int) from by omega]
        refine (put_c E _ 8 _ (l.length * 8) 5 _ w5 hA5 (by rw [HYL.out]; omega) (by decide)).mono ?_
        rintro e w6 ⟨rfl, hA6, hg6⟩
        have hS6 := hS5.kept hg6 (by simp; omega)
        have hD6 := hD5.kept hg6 (by simp; omega)
        have hg7 := grown_trans_new hg5 hg6 hEg
        clear hA5 hS5 hD5 hg5 hg6
        go_wp2
        have HTLT := Lib.hid (tail_lt rest l.length hb1)
        obtain ⟨R, hA6, hRl, hR0⟩ : ∃ R, Arr w6 E 5 (ints .u8 R) ∧ R.length = 128 ∧ ∀ j, j < (tail rest l.length).length → (tail rest l.length).getD j 0 = R.getD j 0 :=
          ⟨_, hA6, by rw [putTo_length]; exact HYL.out, fun j hj => pad_get _ _ _ HPAD.out j (by rw [← HTL.out]; exact hj)⟩
        have HR0 := Lib.hid hR0
        have HRL := Lib.hid hRl
        clear hRl HYL HPAD hb1 hR0
        generalize tail rest l.length = T0 at *
        have hs6 := hg7.size
        go_loopg [6] 129 (fun g v w' => ∃ (st' : St) (T : List Nat) (r c o : Nat), st'.ok ∧ Hid (sum l = bytes (blocks (r / 64) st' T)) ∧ Hid (T.length = r) ∧ r % 64 = 0 ∧ r ≤ c ∧ c ≤ 128 ∧ Hid (∀ x ∈ T, x < 256) ∧ Hid (∀ j, j < r → T.getD j 0 = R.getD (o + j) 0 ∧ o + j < 128) ∧ v = .slice (some ⟨E, o, none⟩) r c ∧
          Arr w' S 134 (ints .u32 (stV st')) ∧ Arr w' E 5 (ints .u8 R) ∧ Arr w' D 30 (ints .u8 (List.replicate 32 0)) ∧ w.grownBy w' none ∧ r < g)
        case atStart => exact ⟨st, T0, m + 8, 128, 0, hst, HFIN, HTL, hn2.2, hn2.1, by decide, HTLT, Lib.hid (fun j hj => by rw [Nat.zero_add]; exact ⟨HR0.out j (by rw [HTL.out]; exact hj), by omega⟩), rfl, hS6, hA6, hD6, hg7, by omega⟩
        case round =>
          clear hS6 hA6 hD6 hg7 HFIN HTL HTLT HR0 hgk
          obtain ⟨st', T, r, c', o, hst', HF, HT, hr64, hrc, hc128, HTb, HTR, rfl, hS7, hA7, hD7, hg7, hgk⟩ := hrel
          by_cases h0 : 0 < r
          · have t1 : decide ((0 : Int) < (r : Int)) = true := decide_eq_true (by omega)
            have t2 : (64 : Int) ≤ (c' : Int) := by omega
            have t3 : (64 : Int) ≤ (r : Int) := by omega
            have hcell : ∀ j, j < 64 → wr.cell? ⟨E, o + j, none⟩ = some (.int .u8 ((T.take 64).getD j 0 : Nat)) := fun j hj => by
              obtain ⟨e1, e2⟩ := HTR.out j (by omega)
              rw [show (T.take 64).getD j 0 = T.getD j 0 from by simp [List.getD, hj], e1]
              exact hA7.cell (ints_get .u8 R (by rw [HRL.out]; exact e2))
            have hab := absorb_c S E o 64 c' st' hst' (T.take 64) (by rw [List.length_take, HT.out]; omega) (fun x hx => HTb.out x (List.mem_of_mem_take hx)) wr hS7 hcell (Nat.le_refl _) (by omega) (by omega) (HL.out.grown hg7 (by simp)) hS2'
            have HAB := Lib.hid hab
            clear hab hcell
            go_wp2_with fail
            refine HAB.out.mono ?_
            rintro e w8 ⟨rfl, hS8, hg8⟩
            have hA8 := hA7.kept hg8 (by simp; omega)
            have hD8 := hD7.kept hg8 (by simp; omega)
            have hg9 := grown_trans_new hg7 hg8 hSw
            clear HAB hS7 hA7 hD7 hg7 hg8
            have HF2 : Hid (sum l = bytes (blocks ((r - 64) / 64) (absorb st' (T.take 64)) (T.drop 64))) := Lib.hid (by
              rw [HF.out, show r / 64 = (r - 64) / 64 + 1 from by omega]; rfl)
            have HT2 : Hid ((T.drop 64).length = r - 64) := Lib.hid (by rw [List.length_drop, HT.out])
            have HTb2 : Hid (∀ x ∈ T.drop 64, x < 256) := Lib.hid (fun x hx => HTb.out x (List.mem_of_mem_drop hx))
            have HTR2 : Hid (∀ j, j < r - 64 → (T.drop 64).getD j 0 = R.getD (o + 64 + j) 0 ∧ o + 64 + j < 128) := Lib.hid (fun j hj => by
              have := HTR.out (64 + j) (by omega)
              rw [show (T.drop 64).getD j 0 = T.getD (64 + j) 0 from by simp [List.getD], Nat.add_assoc]; exact this)
            have HS8 := Lib.hid hS8
            have HA8 := Lib.hid hA8
            have HD8 := Lib.hid hD8
            have HG9 := Lib.hid hg9
            clear hS8 hA8 hD8 hg9
            go_wp2
            case inl =>
              go_roundg r
              case measure => exact hgk
              case rel => exact ⟨_, T.drop 64, r - 64, c' - 64, o, absorb_ok _ _, HF2, HT2, by omega, by omega, by omega, HTb2, Lib.hid (fun j hj => by omega), by rw [show c' - 64 = 0 from by omega], HS8.out, HA8.out, HD8.out, HG9.out, by omega⟩
            case inr =>
              go_roundg r
              case measure => exact hgk
              case rel => exact ⟨_, T.drop 64, r - 64, c' - 64, o + 64, absorb_ok _ _, HF2, HT2, by omega, by omega, by omega, HTb2, HTR2, rfl, HS8.out, HA8.out, HD8.out, HG9.out, by omega⟩
          · have : r = 0 := by omega
            subst this
            have HFE : Hid (sum l = bytes st') := Lib.hid (by rw [HF.out]; rfl)
            clear HF HT HTb HTR
            obtain ⟨xa, xb, xc, xd, xe, xf, xg, xh⟩ := st'
            have q0 : wr.cell? ⟨S, 0, none⟩ = some (.int .u32 xa) := hS7.cell rfl
            have q1 : wr.cell? ⟨S, 1, none⟩ = some (.int .u32 xb) := hS7.cell rfl
            have q2 : wr.cell? ⟨S, 2, none⟩ = some (.int .u32 xc) := hS7.cell rfl
            have q3 : wr.cell? ⟨S, 3, none⟩ = some (.int .u32 xd) := hS7.cell rfl
            have q4 : wr.cell? ⟨S, 4, none⟩ = some (.int .u32 xe) := hS7.cell rfl
            have q5 : wr.cell? ⟨S, 5, none⟩ = some (.int .u32 xf) := hS7.cell rfl
            have q6 : wr.cell? ⟨S, 6, none⟩ = some (.int .u32 xg) := hS7.cell rfl
            have q7 : wr.cell? ⟨S, 7, none⟩ = some (.int .u32 xh) := hS7.cell rfl
            obtain ⟨o1, o2, o3', o4, o5, o6, o7, o8⟩ := hst'
            simp only at o1 o2 o3' o4 o5 o6 o7 o8
            have i0 : ∀ w, (Instr.index 134 (.agg #[.int .u32 (xa : Int), .int .u32 (xb : Int), .int .u32 (xc : Int), .int .u32 (xd : Int), .int .u32 (xe : Int), .int .u32 (xf : Int), .int .u32 (xg : Int), .int .u32 (xh : Int)]) (.int .i64 0)).run Tryd.prog w = .ok (.int .u32 (xa : Int)) w := fun _ => by kernel_rfl
            have i1 : ∀ w, (Instr.index 134 (.agg #[.int .u32 (xa : Int), .int .u32 (xb : Int), .int .u32 (xc : Int), .int .u32 (xd : Int), .int .u32 (xe : Int), .int .u32 (xf : Int), .int .u32 (xg : Int), .int .u32 (xh : Int)]) (.int .i64 1)).run Tryd.prog w = .ok (.int .u32 (xb : Int)) w := fun _ => by kernel_rfl
            have i2 : ∀ w, (Instr.index 134 (.agg #[.int .u32 (xa : Int), .int .u32 (xb : Int), .int .u32 (xc : Int), .int .u32 (xd : Int), .int .u32 (xe : Int), .int .u32 (xf : Int), .int .u32 (xg : Int), .int .u32 (xh : Int)]) (.int .i64 2)).run Tryd.prog w = .ok (.int .u32 (xc : Int)) w := fun _ => by kernel_rfl
            have i3 : ∀ w, (Instr.index 134 (.agg #[.int .u32 (xa : Int), .int .u32 (xb : Int), .int .u32 (xc : Int), .int .u32 (xd : Int), .int .u32 (xe : Int), .int .u32 (xf : Int), .int .u32 (xg : Int), .int .u32 (xh : Int)]) (.int .i64 3)).run Tryd.prog w = .ok (.int .u32 (xd : Int)) w := fun _ => by kernel_rfl
            have i4 : ∀ w, (Instr.index 134 (.agg #[.int .u32 (xa : Int), .int .u32 (xb : Int), .int .u32 (xc : Int), .int .u32 (xd : Int), .int .u32 (xe : Int), .int .u32 (xf : Int), .int .u32 (xg : Int), .int .u32 (xh : Int)]) (.int .i64 4)).run Tryd.prog w = .ok (.int .u32 (xe : Int)) w := fun _ => by kernel_rfl
            have i5 : ∀ w, (Instr.index 134 (.agg #[.int .u32 (xa : Int), .int .u32 (xb : Int), .int .u32 (xc : Int), .int .u32 (xd : Int), .int .u32 (xe : Int), .int .u32 (xf : Int), .int .u32 (xg : Int), .int .u32 (xh : Int)]) (.int .i64 5)).run Tryd.prog w = .ok (.int .u32 (xf : Int)) w := fun _ => by kernel_rfl
            have i6 : ∀ w, (Instr.index 134 (.agg #[.int .u32 (xa : Int), .int .u32 (xb : Int), .int .u32 (xc : Int), .int .u32 (xd : Int), .int .u32 (xe : Int), .int .u32 (xf : Int), .int .u32 (xg : Int), .int .u32 (xh : Int)]) (.int .i64 6)).run Tryd.prog w = .ok (.int .u32 (xg : Int)) w := fun _ => by kernel_rfl
            have i7 : ∀ w, (Instr.index 134 (.agg #[.int .u32 (xa : Int), .int .u32 (xb : Int), .int .u32 (xc : Int), .int .u32 (xd : Int), .int .u32 (xe : Int), .int .u32 (xf : Int), .int .u32 (xg : Int), .int .u32 (xh : Int)]) (.int .i64 7)).run Tryd.prog w = .ok (.int .u32 (xh : Int)) w := fun _ => by kernel_rfl
            go_wp2
            refine wp_loop_rounds 9 ?_
            clear q0 q1 q2 q3 q4 q5 q6 q7 hS7 hA7
            rw [rounds_succ]
            go_wp2_with fail
            refine (put_c D 0 4 _ xa 30 _ _ hD7 (by simp) (by decide)).mono ?_
            rintro e p0 ⟨rfl, hP0, gP0⟩
            have hG0 := grown_trans_new hg7 gP0 hDw
            clear hD7 hg7 gP0
            go_wp2
            rw [rounds_succ]
            go_wp2_with fail
            refine (put_c D 4 4 _ xb 30 _ _ hP0 (by simp [putTo_length]) (by decide)).mono ?_
            rintro e p1 ⟨rfl, hP1, gP1⟩
            have hG1 := grown_trans_new hG0 gP1 hDw
            clear hP0 hG0 gP1
            go_wp2
            rw [rounds_succ]
            go_wp2_with fail
            refine (put_c D 8 4 _ xc 30 _ _ hP1 (by simp [putTo_length]) (by decide)).mono ?_
            rintro e p2 ⟨rfl, hP2, gP2⟩
            have hG2 := grown_trans_new hG1 gP2 hDw
            clear hP1 hG1 gP2
            go_wp2
            rw [rounds_succ]
            go_wp2_with fail
            refine (put_c D 12 4 _ xd 30 _ _ hP2 (by simp [putTo_length]) (by decide)).mono ?_
            rintro e p3 ⟨rfl, hP3, gP3⟩
            have hG3 := grown_trans_new hG2 gP3 hDw
            clear hP2 hG2 gP3
            go_wp2
            rw [rounds_succ]
            go_wp2_with fail
            refine (put_c D 16 4 _ xe 30 _ _ hP3 (by simp [putTo_length]) (by decide)).mono ?_
            rintro e p4 ⟨rfl, hP4, gP4⟩
            have hG4 := grown_trans_new hG3 gP4 hDw
            clear hP3 hG3 gP4
            go_wp2
            rw [rounds_succ]
            go_wp2_with fail
            refine (put_c D 20 4 _ xf 30 _ _ hP4 (by simp [putTo_length]) (by decide)).mono ?_
            rintro e p5 ⟨rfl, hP5, gP5⟩
            have hG5 := grown_trans_new hG4 gP5 hDw
            clear hP4 hG4 gP5
            go_wp2
            rw [rounds_succ]
            go_wp2_with fail
            refine (put_c D 24 4 _ xg 30 _ _ hP5 (by simp [putTo_length]) (by decide)).mono ?_
            rintro e p6 ⟨rfl, hP6, gP6⟩
            have hG6 := grown_trans_new hG5 gP6 hDw
            clear hP5 hG5 gP6
            go_wp2
            rw [rounds_succ]
            go_wp2_with fail
            refine (put_c D 28 4 _ xh 30 _ _ hP6 (by simp [putTo_length]) (by decide)).mono ?_
            rintro e p7 ⟨rfl, hP7, gP7⟩
            have hG7 := grown_trans_new hG6 gP7 hDw
            clear hP6 hG6 gP7
            go_wp2
            rw [bytes_put] at hP7
            rw [show bytes ⟨xa, xb, xc, xd, xe, xf, xg, xh⟩ = sum l from HFE.out.symm] at hP7
            have hvl : (ints .u8 (sum l)).length = 32 := by rw [HFE.out]; rfl
            have hvo : (ints .u8 (sum l)).toArray.all (·.oneCell') = true := by simp [ints, Value.oneCell']
            obtain ⟨vs, hvs⟩ : ∃ vs, vs = ints .u8 (sum l) := ⟨_, rfl⟩
            rw [← hvs] at hP7 hvl hvo
            have HVS := Lib.hid hvs
            clear hvs
            have hvz : (Tryd.prog.info? 30).map (·.size) = some vs.toArray.size := by rw [List.size_toArray, hvl]; kernel_rfl
            have hu : Tryd.prog.underlying 30 = some (.array 32 5) := by kernel_rfl
            have HU := Lib.hid hu
            have HVZ := Lib.hid hvz
            have HVO := Lib.hid hvo
            have HP := Lib.hid hP7
            clear hu hvz hvo hP7 hvl
            rw [rounds_succ]
            go_wp2_with (first | (refine wpList_load_row rfl 30 (.tmp 2) rfl D rfl 30 vs.toArray (0, 0) (.array 32 5) HP.out HU.out rfl HVZ.out ?_) | (refine wpList_store_row rfl 30 (.tmp 2) (.tmp 68) rfl D vs.toArray rfl rfl 30 vs.toArray HP.out HVZ.out rfl HVO.out ?_))
            refine bodyPost_ret (v := .agg vs.toArray) (results_cell_row rfl _ _ D 30 vs.toArray (0, 0) (.array 32 5) rfl (setRow_heap p7 D vs.toArray vs.toArray 30 (0, 0) HP.out) HU.out rfl HVZ.out) rfl ⟨by rw [HVS.out], ?_⟩
            exact grown_below hG7 (below_setRow (Below.refl w.heap.size p7) hDw _) (Nat.le_refl _)
end Go.Proofs.YtjbcfdgnafmbkaaDoor.Sha
end
