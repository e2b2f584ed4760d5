/- The reference's SHA-256, second part: a block. -/
import Derived.Test.YtjbcfdgnafmbkaaDoorRefSha1
set_option linter.unusedVariables false
namespace Go.Proofs.YtjbcfdgnafmbkaaDoor.Sha
open Go.RowKit Go.Proofs.YtjbcfdgnafmbkaaDoor Go.Proofs.YtjbcfdgnafmbkaaDoorW.PrintWords Go.Proofs.YtjbcfdgnafmbkaaDoor.PGroup Go.Proofs.YtjbcfdgnafmbkaaDoorW.PrintMore
theorem not_u32 (e : Nat) (h : e < 4294967296) : IntKind.u32.wrap (-(e : Int) - 1) = ((4294967295 - e : Nat) : Int) := by rw [IntKind.wrap_u32]; omega
theorem mj_bits (a b c : Nat) (ha : a < 4294967296) (hb : b < 4294967296) (hc : c < 4294967296) :
    bits .xor .u32 (bits .xor .u32 (bits .and .u32 (a : Int) b) (bits .and .u32 (a : Int) c)) (bits .and .u32 (b : Int) c) = (mj a b c : Nat) := by
  rw [u32_and_nat a b ha hb, u32_and_nat a c ha hc, u32_and_nat b c hb hc, u32_xor_nat _ _ (and_lt ha) (and_lt ha), u32_xor_nat _ _ (xor_lt (and_lt ha) (and_lt ha)) (and_lt hb), mj_ref]
theorem ch_bits (e f g : Nat) (he : e < 4294967296) (hf : f < 4294967296) (hg : g < 4294967296) :
    bits .xor .u32 (bits .and .u32 (e : Int) f) (bits .and .u32 ((4294967295 - e : Nat) : Int) g) = (ch e f g : Nat) := by
  rw [u32_and_nat e f he hf, u32_and_nat _ g (by omega) hg, u32_xor_nat _ _ (and_lt he) (and_lt (by omega)), (ch_ref e f g hg).resolve_right (by omega)]
theorem xor_max (e : Nat) (h : e < 4294967296) : 4294967295 ^^^ e = 4294967295 - e := by
  refine Nat.eq_of_testBit_eq fun i => ?_
  have h1 : 4294967295 - e = 2 ^ 32 - (e + 1) := by omega
  rw [h1, Nat.testBit_xor, Nat.testBit_two_pow_sub_succ (show e < 2 ^ 32 from h), show (4294967295 : Nat) = 2 ^ 32 - 1 from rfl, Nat.testBit_two_pow_sub_one]
  by_cases hi : i < 32
  · simp [hi]
  · have h2 : e.testBit i = false := Nat.testBit_lt_two_pow (Nat.lt_of_lt_of_le h (by
        have : (2 : Nat) ^ 32 ≤ 2 ^ i := Nat.pow_le_pow_right (by decide) (by omega)
        simpa using this))
    simp [hi, h2]
theorem not_bits (e : Nat) (h : e < 4294967296) : bits .xor .u32 (if IntKind.u32.signed = true then -1 else IntKind.u32.max) (e : Int) = ((4294967295 - e : Nat) : Int) := by
  rw [if_neg (by decide), show IntKind.u32.max = ((4294967295 : Nat) : Int) from rfl, u32_xor_nat _ _ (by decide) h, xor_max e h]
theorem ch_bits2 (e f g : Nat) (he : e < 4294967296) (hf : f < 4294967296) (hg : g < 4294967296) :
    bits .xor .u32 (bits .and .u32 (e : Int) f) (bits .and .u32 (bits .xor .u32 IntKind.u32.max (e : Int)) g) = (ch e f g : Nat) := by
  rw [show IntKind.u32.max = ((4294967295 : Nat) : Int) from rfl, u32_xor_nat _ _ (by decide) he, xor_max e he, ch_bits e f g he hf hg]
theorem rror_q (x n : Nat) (k : Int) (hk : k = (n : Int)) (hx : x < 4294967296) (h1 : 1 ≤ n) (h2 : n ≤ 31) (w : World) (m : Nat) :
    Calls Tryd.prog 141 #[.int .u32 x, .int .i64 k] (w.drewN m) fun e w' => e = .returned (.int .u32 (ror x n)) ∧ ∃ m, w' = w.drewN m := by
  rw [hk]
  exact Calls.quiet_of (rror_c x n hx h1 h2 _)
/-- The blocks of the box, of the result; nothing else that was there has turned. -/
structure RB (w W : World) (st : St) : Prop where
  s : Arr W w.heap.size 133 (ints .u32 (stV st))
  r : Arr W (w.heap.size + 1) 133 (ints .u32 (List.replicate 8 0))
  g : w.grownBy W none
theorem RB.set {w W : World} {st : St} (h : RB w W st) {b : Nat} (hb : w.heap.size + 1 < b) (j : Nat) (v : Value) : RB w (W.setCell ⟨b, j, none⟩ v) st :=
  ⟨h.s.other (by omega) _ _, h.r.other (by omega) _ _, grown_new h.g (by omega) _ _⟩
theorem RB.drewN {w W : World} {st : St} (h : RB w W st) (n : Nat) : RB w (W.drewN n) st := ⟨h.s.drewN n, h.r.drewN n, grown_drewN h.g n⟩
theorem RB.alloc {w W : World} {st : St} (h : RB w W st) (o : Obj) : RB w (W.alloc o) st := ⟨h.s.alloc o, h.r.alloc o, grown_alloc h.g o⟩
theorem RB.grown {w W W' : World} {st : St} (h : RB w W st) (g : W.grownBy W' none) : RB w W' st := ⟨h.s.kept g (by simp), h.r.kept g (by simp), grownBy_trans h.g g⟩
theorem RB.below {w W W' : World} {st : St} (h : RB w W st) {n : Nat} (g : Below n W W') (hn : w.heap.size + 1 < n) : RB w W' st := ⟨h.s.below g (by omega), h.r.below g (by omega), grown_below h.g g (by omega)⟩
theorem RB.start (w : World) (st : St) : RB w ((w.alloc (.cells (ints .u32 (stV st)).toArray 133)).alloc (.cells (ints .u32 (List.replicate 8 0)).toArray 133)) st :=
  ⟨(Arr.new w 133 _).alloc _, by have := Arr.new (w.alloc (.cells (ints .u32 (stV st)).toArray 133)) 133 (ints .u32 (List.replicate 8 0)); simpa using this, grown_alloc (grown_alloc (grownBy_refl w none) _) _⟩
set_option maxHeartbeats 2000000 in
set_option maxRecDepth 100000 in
theorem rblock_c (bb off cap : Nat) (st : St) (hst : st.ok) (l : List Nat) (hl : l.length = 64) (hb : ∀ x ∈ l, x < 256) (w : World)
    (hblk : ∀ j, j < 64 → w.cell? ⟨bb, off + j, none⟩ = some (.int .u8 (l.getD j 0 : Nat))) (h64 : 64 ≤ cap) (hcap : cap ≤ 9223372036854775807) :
    Calls Tryd.prog 121 #[.agg (ints .u32 (stV st)).toArray, .slice (some ⟨bb, off, none⟩) 64 cap] w fun e w' => e = .returned (.agg (ints .u32 (stV (absorb st l))).toArray) ∧ w.grownBy w' none := by
  have HBLK := Lib.hid hblk
  have HB := Lib.hid hb
  have HLEN := Lib.hid hl
  clear hblk hb hl
  obtain ⟨fin, hfin⟩ : ∃ f, f = absorb st l := ⟨_, rfl⟩
  have HWS := Lib.hid (show fin = st.add (rnds K (words1 l 48) st 64) from hfin)
  rw [← hfin]
  clear hfin
  have HST := Lib.hid hst
  obtain ⟨zs, hzs⟩ : ∃ zs, zs = ints .u32 (List.replicate 64 0) := ⟨_, rfl⟩
  have hvz : (Tryd.prog.info? 172).map (·.size) = some zs.toArray.size := by rw [hzs]; kernel_rfl
  have hvo : zs.toArray.all (·.oneCell') = true := by rw [hzs]; kernel_rfl
  have hst0 := RB.start w st
  have hA0 := Arr.new ((w.alloc (.cells (ints .u32 (stV st)).toArray 133)).alloc (.cells (ints .u32 (List.replicate 8 0)).toArray 133)) 172 (ints .u32 (List.replicate 64 0))
  have hz0 : ((w.alloc (.cells (ints .u32 (stV st)).toArray 133)).alloc (.cells (ints .u32 (List.replicate 8 0)).toArray 133)).heap.size = w.heap.size + 1 + 1 := by simp
  rw [hz0] at hA0
  have hset := setRow_heap _ _ _ (ints .u32 (List.replicate 64 0)).toArray 172 (0, 0) hA0
  have hrb := (hst0.alloc (.cells (ints .u32 (List.replicate 64 0)).toArray 172)).below (below_setRow (Below.refl (w.heap.size + 1 + 1) _) (Nat.le_refl _) (ints .u32 (List.replicate 64 0)).toArray) (by omega)
  have HVZ := Lib.hid hvz
  have HVO := Lib.hid hvo
  have HZS := Lib.hid hzs
  have HA0 := Lib.hid hA0
  have HSET := Lib.hid hset
  have HRB := Lib.hid hrb
  clear hvz hvo hzs hst0 hA0 hz0 hset hrb hst
  obtain ⟨sa, sb, sc, sd, se, sf, sg, sh⟩ := st
  rw [show (ints .u32 (stV ⟨sa, sb, sc, sd, se, sf, sg, sh⟩)).toArray = #[.int .u32 sa, .int .u32 sb, .int .u32 sc, .int .u32 sd, .int .u32 se, .int .u32 sf, .int .u32 sg, .int .u32 sh] from rfl]
  go_enter Tryd.func121, Tryd.ntmps121
  go_upto_block 0 with (refine wpList_store_row rfl 172 (.tmp 5) (.tmp 22) rfl (w.heap.size + 1 + 1) (ints .u32 (List.replicate 64 0)).toArray rfl rfl 172 (ints .u32 (List.replicate 64 0)).toArray HA0.out (by rw [← HZS.out]; exact HVZ.out) rfl (by rw [← HZS.out]; exact HVO.out) ?_; generalize hW : World.setRow _ _ _ = W1; have hR1 : RB w W1 ⟨sa, sb, sc, sd, se, sf, sg, sh⟩ := (by rw [← hW]; exact HRB.out); have hA1 : Arr W1 (w.heap.size + 1 + 1) 172 (ints .u32 (List.replicate 64 0)) := (by rw [← hW]; exact HSET.out); have HR1 := Lib.hid hR1; have HA1 := Lib.hid hA1; clear hR1 hA1 hW)
  clear HRB HSET HA0
  obtain ⟨A, hA⟩ : ∃ A, A = w.heap.size + 1 + 1 := ⟨_, rfl⟩
  rw [← hA] at HA1 ⊢
  have hAw : w.heap.size + 1 < A := by omega
  have HAE := Lib.hid hA
  clear hA
  have HSTE : Hid ((⟨sa, sb, sc, sd, se, sf, sg, sh⟩ : St) = ⟨sa, sb, sc, sd, se, sf, sg, sh⟩) := Lib.hid rfl
  go_wp2
  go_loopw [6] (fun v w' => ∃ t : Nat, t ≤ 16 ∧ v = .int .i64 t ∧ Arr w' A 172 (ints .u32 (words0 l t)) ∧ RB w w' ⟨sa, sb, sc, sd, se, sf, sg, sh⟩) (fun v _ => 16 - (intOf v).toNat)
  case atStart => exact ⟨0, by omega, rfl, HA1.out, HR1.out⟩
  case round =>
    clear HA1 HR1
    obtain ⟨t, ht, rfl, hA, hR⟩ := hrel
    by_cases hlt : t < 16
    · have hg := hR.g
      have hcw : ∀ j, j < 4 → wr.cell? ⟨bb, off + 4 * t + j, none⟩ = some (.int .u8 (l.getD (4 * t + j) 0 : Nat)) := fun j hj => by
        rw [Nat.add_assoc]; exact cell_grown hg (HBLK.out (4 * t + j) (by omega)) (fun r e => by cases e)
      have hword := rword_c bb (off + 4 * t) (cap - 4 * t) l (4 * t) HB.out wr (by omega) hcw
      have HWC := Lib.hid hword
      have hs := hA.set t (.int .u32 (word4 l (4 * t) : Nat))
      rw [ints_set] at hs
      have HSET := Lib.hid hs
      have HRR := Lib.hid hR
      have hc := hA.cell (ints_get .u32 (words0 l t) (j := t) (by rw [words0_length]; omega))
      have hf := hA.frozen t
      clear hcw hword hs hR hg
      go_wp2_with fail
      refine HWC.out.mono ?_; rintro e w' ⟨rfl, n, rfl⟩
      go_wp2
      go_roundw
      case rel => exact ⟨t + 1, by omega, by go_num, HSET.out.drewN n, (HRR.out.drewN n).set hAw _ _⟩
      case measure => simp [intOf]; omega
    · have : t = 16 := by omega
      subst this
      go_wp2
      go_loopg [7] 49 (fun g v w' => ∃ t : Nat, 16 ≤ t ∧ t ≤ 64 ∧ v = .int .i64 t ∧ Arr w' A 172 (ints .u32 (words1 l (t - 16))) ∧ RB w w' ⟨sa, sb, sc, sd, se, sf, sg, sh⟩ ∧ 64 - t < g)
      case atStart => exact ⟨16, by omega, by omega, rfl, hA, hR, by omega⟩
      case round =>
        clear hA hR
        obtain ⟨t, ht0, ht, rfl, hA, hR, hgk⟩ := hrel
        by_cases hlt : t < 64
        · have wl := words1_length l (t - 16)
          have gl := fun j => words1_lt HB.out (t - 16) j
          obtain ⟨i16, j16⟩ : ∃ i, i = t - 16 := ⟨_, rfl⟩
          obtain ⟨i15, j15⟩ : ∃ i, i = t - 15 := ⟨_, rfl⟩
          obtain ⟨i7, j7⟩ : ∃ i, i = t - 7 := ⟨_, rfl⟩
          obtain ⟨i2, j2⟩ : ∃ i, i = t - 2 := ⟨_, rfl⟩
          have w16 : IntKind.i64.wrap ((t : Int) - 16) = (i16 : Int) := by rw [IntKind.wrap_i64]; omega
          have w15 : IntKind.i64.wrap ((t : Int) - 15) = (i15 : Int) := by rw [IntKind.wrap_i64]; omega
          have w7 : IntKind.i64.wrap ((t : Int) - 7) = (i7 : Int) := by rw [IntKind.wrap_i64]; omega
          have w2 : IntKind.i64.wrap ((t : Int) - 2) = (i2 : Int) := by rw [IntKind.wrap_i64]; omega
          have b16 : (i16 : Int) < 64 := by omega
          have b15 : (i15 : Int) < 64 := by omega
          have b7 : (i7 : Int) < 64 := by omega
          have b2 : (i2 : Int) < 64 := by omega
          have b0 : (t : Int) < 64 := by omega
          have c16 := hA.cell (ints_get .u32 (words1 l (t - 16)) (j := i16) (by omega))
          have c15 := hA.cell (ints_get .u32 (words1 l (t - 16)) (j := i15) (by omega))
          have c7 := hA.cell (ints_get .u32 (words1 l (t - 16)) (j := i7) (by omega))
          have c2 := hA.cell (ints_get .u32 (words1 l (t - 16)) (j := i2) (by omega))
          have ct := hA.cell (ints_get .u32 (words1 l (t - 16)) (j := t) (by omega))
          have hf := hA.frozen t
          have g16 := gl i16; have g15 := gl i15; have g7 := gl i7; have g2 := gl i2
          have hs := hA.set t (.int .u32 (nextW (words1 l (t - 16)) t : Nat))
          rw [ints_set] at hs
          have hs2 : Hid (Arr (wr.setCell ⟨A, t, none⟩ (.int .u32 (nextW (words1 l (t - 16)) t : Nat))) A 172 (ints .u32 (words1 l (t + 1 - 16)))) := Lib.hid (by
            rw [show t + 1 - 16 = (t - 16) + 1 from by omega, words1, show 16 + (t - 16) = t from by omega]; exact hs)
          have hn : Hid (nextW (words1 l (t - 16)) t = add (add (add ((words1 l (t - 16)).getD i16 0) (s0 ((words1 l (t - 16)).getD i15 0))) ((words1 l (t - 16)).getD i7 0)) (s1 ((words1 l (t - 16)).getD i2 0))) := Lib.hid (by rw [j16, j15, j7, j2]; rfl)
          have HRR := Lib.hid hR
          clear hs gl wl j16 j15 j7 j2 hR
          generalize (words1 l (t - 16)).getD i16 0 = x16 at *
          generalize (words1 l (t - 16)).getD i15 0 = x15 at *
          generalize (words1 l (t - 16)).getD i7 0 = x7 at *
          generalize (words1 l (t - 16)).getD i2 0 = x2 at *
          generalize (words1 l (t - 16)).getD t 0 = xt at *
          generalize nextW (words1 l (t - 16)) t = nw at *
          clear hA
          have e1 := u32_xor_nat (ror x15 7) (ror x15 18) (ror_lt g15) (ror_lt g15)
          have e2 : bits .xor .u32 ((ror x15 7 ^^^ ror x15 18 : Nat) : Int) ((x15 : Int) / 8) = (s0 x15 : Nat) := u32_xor_nat (ror x15 7 ^^^ ror x15 18) (x15 / 8) (xor_lt (ror_lt g15) (ror_lt g15)) (by omega)
          have e3 := u32_xor_nat (ror x2 17) (ror x2 19) (ror_lt g2) (ror_lt g2)
          have e4 : bits .xor .u32 ((ror x2 17 ^^^ ror x2 19 : Nat) : Int) ((x2 : Int) / 1024) = (s1 x2 : Nat) := u32_xor_nat (ror x2 17 ^^^ ror x2 19) (x2 / 1024) (xor_lt (ror_lt g2) (ror_lt g2)) (by omega)
          have r1 := fun n => rror_q x15 7 7 rfl g15 (by decide) (by decide) wr n
          have r2 := fun n => rror_q x15 18 18 rfl g15 (by decide) (by decide) wr n
          have r3 := fun n => rror_q x2 17 17 rfl g2 (by decide) (by decide) wr n
          have r4 := fun n => rror_q x2 19 19 rfl g2 (by decide) (by decide) wr n
          have R1 := Lib.hid r1; have R2 := Lib.hid r2; have R3 := Lib.hid r3; have R4 := Lib.hid r4
          clear r1 r2 r3 r4
          go_wp2
          refine wp_region_quiet_tail 28 (by kernel_rfl) (by kernel_rfl) ?_
          simp only [List.take_succ_cons, List.take_zero, List.drop_succ_cons, List.drop_zero]
          repeat (go_big_quiet_step (first | with_reducible exact R1.out _ | with_reducible exact R2.out _ | with_reducible exact R3.out _ | with_reducible exact R4.out _))
          refine wpQuiet_nil ?_
          intro n
          have hs3 : Hid (Arr ((wr.setCell ⟨A, t, none⟩ (.int .u32 (((x16 : Int) + (s0 x15 : Nat) + x7 + (s1 x2 : Nat)) % 4294967296))).drewN n) A 172 (ints .u32 (words1 l (t + 1 - 16)))) := Lib.hid (by
            rw [show ((x16 : Int) + (s0 x15 : Nat) + x7 + (s1 x2 : Nat)) % 4294967296 = (nw : Int) by rw [hn.out]; unfold add; omega]; exact hs2.out.drewN n)
          clear hs2
          go_wp2
          go_roundg (64 - t)
          case rel => exact ⟨t + 1, by omega, by omega, by go_num, hs3.out, (HRR.out.drewN n).set hAw _ _, by omega⟩
          case measure => omega
        · have : t = 64 := by omega
          subst this
          have hnum := rnumbers_c wr
          have HNUM := Lib.hid hnum
          have HAA := Lib.hid hA
          have HRR := Lib.hid hR
          clear hnum hA hR hgk
          go_wp2_with fail
          refine HNUM.out.mono ?_
          rintro e w1 ⟨rfl, hg1⟩
          have hA1 := HAA.out.kept hg1 (by simp)
          have hR1 := HRR.out.grown hg1
          obtain ⟨kz, hkz⟩ : ∃ kz, kz = ints .u32 K := ⟨_, rfl⟩
          have hvz : (Tryd.prog.info? 172).map (·.size) = some kz.toArray.size := by rw [hkz]; kernel_rfl
          have hvo : kz.toArray.all (·.oneCell') = true := by rw [hkz]; kernel_rfl
          have hv32 : (ints .u32 (List.replicate 64 0)).toArray.size = kz.toArray.size := by rw [hkz]; kernel_rfl
          rw [← hkz]
          have hB0 := Arr.new w1 172 (ints .u32 (List.replicate 64 0))
          have hset := setRow_heap _ _ _ kz.toArray 172 (0, 0) hB0
          have hbw := below_setRow (Below.refl w1.heap.size (w1.alloc (.cells (ints .u32 (List.replicate 64 0)).toArray 172))) (Nat.le_refl _) kz.toArray
          have hr2 := (hR1.alloc (.cells (ints .u32 (List.replicate 64 0)).toArray 172)).below hbw (by have := hR1.r.lt; omega)
          have ha2 := (hA1.alloc (.cells (ints .u32 (List.replicate 64 0)).toArray 172)).below hbw hA1.lt
          have HVZ1 := Lib.hid hvz
          have HVO1 := Lib.hid hvo
          have HV32 := Lib.hid hv32
          have HB0 := Lib.hid hB0
          have HS2 := Lib.hid hset
          have HR2 := Lib.hid hr2
          have HA2 := Lib.hid ha2
          have HKZ := Lib.hid hkz
          clear hvz hvo hv32 hB0 hset hbw hr2 ha2 hkz hA1 hR1 hg1 HAA HRR HNUM
          go_upto_region 13 with (refine wpList_store_row rfl 172 (.tmp 10) (.tmp 78) rfl w1.heap.size kz.toArray rfl rfl 172 (ints .u32 (List.replicate 64 0)).toArray HB0.out HVZ1.out HV32.out HVO1.out ?_; generalize hW : World.setRow _ _ _ = w2; have hR2 : RB w w2 ⟨sa, sb, sc, sd, se, sf, sg, sh⟩ := (by rw [← hW]; exact HR2.out); have hA2 : Arr w2 A 172 (ints .u32 (words1 l (64 - 16))) := (by rw [← hW]; exact HA2.out); have hK2 : Arr w2 w1.heap.size 172 (ints .u32 K) := (by rw [← hW, ← HKZ.out]; exact HS2.out); clear hW)
          clear HB0 HS2 HR2 HA2 HV32
          generalize hKB : w1.heap.size = KB at *
          have q0 : w2.cell? ⟨w.heap.size, 0, none⟩ = some (.int .u32 sa) := hR2.s.cell rfl
          have q1 : w2.cell? ⟨w.heap.size, 1, none⟩ = some (.int .u32 sb) := hR2.s.cell rfl
          have q2 : w2.cell? ⟨w.heap.size, 2, none⟩ = some (.int .u32 sc) := hR2.s.cell rfl
          have q3 : w2.cell? ⟨w.heap.size, 3, none⟩ = some (.int .u32 sd) := hR2.s.cell rfl
          have q4 : w2.cell? ⟨w.heap.size, 4, none⟩ = some (.int .u32 se) := hR2.s.cell rfl
          have q5 : w2.cell? ⟨w.heap.size, 5, none⟩ = some (.int .u32 sf) := hR2.s.cell rfl
          have q6 : w2.cell? ⟨w.heap.size, 6, none⟩ = some (.int .u32 sg) := hR2.s.cell rfl
          have q7 : w2.cell? ⟨w.heap.size, 7, none⟩ = some (.int .u32 sh) := hR2.s.cell rfl
          have HK := Lib.hid hK2
          have HA := Lib.hid hA2
          have HR := Lib.hid hR2
          clear hK2 hA2 hR2 hKB
          go_quiet (fail)
          clear q0 q1 q2 q3 q4 q5 q6 q7
          go_wp2
          have hws := words1_lt HB.out 48
          have hwl := words1_length l 48
          generalize words1 l (64 - 16) = ws at *
          generalize hq0 : w2.drewN _ = w3
          have hA3 : Arr w3 A 172 (ints .u32 ws) := by rw [← hq0]; exact HA.out.drewN _
          have hK3 : Arr w3 KB 172 (ints .u32 K) := by rw [← hq0]; exact HK.out.drewN _
          have hR3 : RB w w3 ⟨sa, sb, sc, sd, se, sf, sg, sh⟩ := by rw [← hq0]; exact HR.out.drewN _
          have HWL := Lib.hid hws
          have HWN := Lib.hid hwl
          clear hq0 HA HK HR hws hwl
          go_loopg [11, 12, 13, 14, 15, 16, 17, 18, 19] 65 (fun g v11 v12 v13 v14 v15 v16 v17 v18 v19 w' => ∃ (t : Nat) (xa xb xc xd xe xf xg xh : Nat), t ≤ 64 ∧ v19 = .int .i64 t ∧ Hid (rnds K ws ⟨sa, sb, sc, sd, se, sf, sg, sh⟩ t = ⟨xa, xb, xc, xd, xe, xf, xg, xh⟩) ∧
            v11 = .int .u32 xa ∧ v12 = .int .u32 xb ∧ v13 = .int .u32 xc ∧ v14 = .int .u32 xd ∧ v15 = .int .u32 xe ∧ v16 = .int .u32 xf ∧ v17 = .int .u32 xg ∧ v18 = .int .u32 xh ∧
            Arr w' A 172 (ints .u32 ws) ∧ Arr w' KB 172 (ints .u32 K) ∧ RB w w' ⟨sa, sb, sc, sd, se, sf, sg, sh⟩ ∧ 64 - t < g)
          case atStart => exact ⟨0, _, _, _, _, _, _, _, _, by omega, rfl, Lib.hid rfl, rfl, rfl, rfl, rfl, rfl, rfl, rfl, rfl, hA3, hK3, hR3, by omega⟩
          case round =>
            clear hA3 hK3 hR3
            obtain ⟨t, xa, xb, xc, xd, xe, xf, xg, xh, ht, rfl, HE, rfl, rfl, rfl, rfl, rfl, rfl, rfl, rfl, hA, hK, hR, hgk⟩ := hrel
            by_cases hlt : t < 64
            · have hok := rnds_ok HST.out K ws t
              rw [HE.out] at hok
              obtain ⟨o1, o2, o3, o4, o5, o6, o7, o8⟩ := hok
              simp only at o1 o2 o3 o4 o5 o6 o7 o8
              have hk := hK.cell (ints_get .u32 K (j := t) (by show t < 64; exact hlt))
              have hw := hA.cell (ints_get .u32 ws (j := t) (by rw [HWN.out]; exact hlt))
              have wlt := HWL.out t
              have HN : Hid (rnds K ws ⟨sa, sb, sc, sd, se, sf, sg, sh⟩ (t + 1) = rnd ⟨xa, xb, xc, xd, xe, xf, xg, xh⟩ (K.getD t 0) (ws.getD t 0)) := Lib.hid (by rw [rnds, HE.out])
              have HAA := Lib.hid hA
              have HKK := Lib.hid hK
              have HRR := Lib.hid hR
              clear hA hK hR HE
              generalize ws.getD t 0 = wt at *
              generalize K.getD t 0 = kt at *
              have b0 : (t : Int) < 64 := by omega
              have R1 := Lib.hid fun n => rror_q xe 6 6 rfl o5 (by decide) (by decide) wr n
              have R2 := Lib.hid fun n => rror_q xe 11 11 rfl o5 (by decide) (by decide) wr n
              have R3 := Lib.hid fun n => rror_q xe 25 25 rfl o5 (by decide) (by decide) wr n
              have f1 := u32_xor_nat (ror xe 6) (ror xe 11) (ror_lt o5) (ror_lt o5)
              have f2 : bits .xor .u32 ((ror xe 6 ^^^ ror xe 11 : Nat) : Int) ((ror xe 25 : Nat) : Int) = (S1 xe : Nat) := u32_xor_nat (ror xe 6 ^^^ ror xe 11) (ror xe 25) (xor_lt (ror_lt o5) (ror_lt o5)) (ror_lt o5)
              have f3a : bits .xor .u32 (if IntKind.u32.signed = true then -1 else IntKind.u32.max) (xe : Int) = ((4294967295 - xe : Nat) : Int) := not_bits xe o5
              have f3 := ch_bits xe xf xg o5 o6 o7
              go_wp2
              go_quiet ((first | with_reducible exact R1.out _ | with_reducible exact R2.out _ | with_reducible exact R3.out _))
              have hp : (((xh : Int) + (S1 xe : Nat) + (ch xe xf xg : Nat) + kt) % 4294967296 + wt) % 4294967296 = (t1 ⟨xa, xb, xc, xd, xe, xf, xg, xh⟩ kt wt : Nat) := by
                show _ = ((add (add (add (add xh (S1 xe)) (ch xe xf xg)) kt) wt : Nat) : Int)
                unfold add; omega
              rw [hp]
              clear hp f1 f2 f3 f3a hk hw R1 R2 R3
              have f4 := u32_xor_nat (ror xa 2) (ror xa 13) (ror_lt o1) (ror_lt o1)
              have f5 : bits .xor .u32 ((ror xa 2 ^^^ ror xa 13 : Nat) : Int) ((ror xa 22 : Nat) : Int) = (S0 xa : Nat) := u32_xor_nat (ror xa 2 ^^^ ror xa 13) (ror xa 22) (xor_lt (ror_lt o1) (ror_lt o1)) (ror_lt o1)
              have f6 := mj_bits xa xb xc o1 o2 o3
              generalize hw3 : wr.drewN nq = w3
              have hA3 := HAA.out.drewN nq
              have hK3 := HKK.out.drewN nq
              have hR3 := HRR.out.drewN nq
              rw [hw3] at hA3 hK3 hR3
              have HA3 := Lib.hid hA3
              have HK3 := Lib.hid hK3
              have HR3 := Lib.hid hR3
              clear hw3 hA3 hK3 hR3 HAA HKK HRR
              have R1 := Lib.hid fun n => rror_q xa 2 2 rfl o1 (by decide) (by decide) w3 n
              have R2 := Lib.hid fun n => rror_q xa 13 13 rfl o1 (by decide) (by decide) w3 n
              have R3 := Lib.hid fun n => rror_q xa 22 22 rfl o1 (by decide) (by decide) w3 n
              go_wp2_with fail
              refine (R1.out 0).mono ?_
              rintro e w' ⟨rfl, m1, rfl⟩
              go_wp2_with fail
              refine (R2.out m1).mono ?_
              rintro e w' ⟨rfl, m2, rfl⟩
              go_wp2_with fail
              refine (R3.out m2).mono ?_
              rintro e w' ⟨rfl, m3, rfl⟩
              have z1 : Hid ((((t1 ⟨xa, xb, xc, xd, xe, xf, xg, xh⟩ kt wt : Nat) : Int) + ((S0 xa : Nat) + (mj xa xb xc : Nat) : Int) % 4294967296) % 4294967296 = (add (t1 ⟨xa, xb, xc, xd, xe, xf, xg, xh⟩ kt wt) (t2 ⟨xa, xb, xc, xd, xe, xf, xg, xh⟩) : Nat)) := Lib.hid (by
                show _ = ((add _ (add (S0 xa) (mj xa xb xc)) : Nat) : Int)
                unfold add; omega)
              have z2 : Hid (((xd : Int) + (t1 ⟨xa, xb, xc, xd, xe, xf, xg, xh⟩ kt wt : Nat)) % 4294967296 = (add xd (t1 ⟨xa, xb, xc, xd, xe, xf, xg, xh⟩ kt wt) : Nat)) := Lib.hid (by unfold add; omega)
              go_wp2
              go_roundg (64 - t)
              case rel =>
                exact ⟨t + 1, add (t1 ⟨xa, xb, xc, xd, xe, xf, xg, xh⟩ kt wt) (t2 ⟨xa, xb, xc, xd, xe, xf, xg, xh⟩), xa, xb, xc, add xd (t1 ⟨xa, xb, xc, xd, xe, xf, xg, xh⟩ kt wt), xe, xf, xg, by omega, by go_num, Lib.hid (by rw [HN.out]; rfl),
                  by rw [z1.out], rfl, rfl, rfl, by rw [z2.out], rfl, rfl, rfl, HA3.out.drewN m3, HK3.out.drewN m3, HR3.out.drewN m3, by omega⟩
              case measure => omega
            · have : t = 64 := by omega
              subst this
              have q0 : wr.cell? ⟨w.heap.size, 0, none⟩ = some (.int .u32 sa) := hR.s.cell rfl
              have q1 : wr.cell? ⟨w.heap.size, 1, none⟩ = some (.int .u32 sb) := hR.s.cell rfl
              have q2 : wr.cell? ⟨w.heap.size, 2, none⟩ = some (.int .u32 sc) := hR.s.cell rfl
              have q3 : wr.cell? ⟨w.heap.size, 3, none⟩ = some (.int .u32 sd) := hR.s.cell rfl
              have q4 : wr.cell? ⟨w.heap.size, 4, none⟩ = some (.int .u32 se) := hR.s.cell rfl
              have q5 : wr.cell? ⟨w.heap.size, 5, none⟩ = some (.int .u32 sf) := hR.s.cell rfl
              have q6 : wr.cell? ⟨w.heap.size, 6, none⟩ = some (.int .u32 sg) := hR.s.cell rfl
              have q7 : wr.cell? ⟨w.heap.size, 7, none⟩ = some (.int .u32 sh) := hR.s.cell rfl
              obtain ⟨vs, hvs⟩ : ∃ vs : Array Value, vs = #[.int .u32 (((sa : Int) + xa) % 4294967296), .int .u32 (((sb : Int) + xb) % 4294967296), .int .u32 (((sc : Int) + xc) % 4294967296), .int .u32 (((sd : Int) + xd) % 4294967296), .int .u32 (((se : Int) + xe) % 4294967296), .int .u32 (((sf : Int) + xf) % 4294967296), .int .u32 (((sg : Int) + xg) % 4294967296), .int .u32 (((sh : Int) + xh) % 4294967296)] := ⟨_, rfl⟩
              have hvf : vs = (ints .u32 (stV fin)).toArray := by
                rw [hvs, HWS.out, HE.out]
                simp only [St.add, stV, ints, List.map_cons, List.map_nil, add]
                simp
              have hvz : (Tryd.prog.info? 133).map (·.size) = some vs.size := by rw [hvs]; kernel_rfl
              have hvo : vs.all (·.oneCell') = true := by rw [hvf]; simp [ints, Value.oneCell']
              have hv8 : (ints .u32 (List.replicate 8 0)).toArray.size = vs.size := by rw [hvs]; rfl
              have hset := setRow_heap wr (w.heap.size + 1) _ vs 133 (0, 0) hR.r
              have hgf := grown_below hR.g (below_setRow (Below.refl w.heap.size wr) (Nat.le_succ w.heap.size) vs) (Nat.le_refl _)
              have HRr := Lib.hid hR.r
              have HVS := Lib.hid hvs
              have HVF := Lib.hid hvf
              have HVZ2 := Lib.hid hvz
              have HVO2 := Lib.hid hvo
              have HV8 := Lib.hid hv8
              have HST2 := Lib.hid hset
              have HGF := Lib.hid hgf
              clear hvs hvf hvz hvo hv8 hset hgf hA hK hR
              go_wp2_with (refine wpList_store_row rfl 133 (.tmp 4) (.tmp 190) rfl (w.heap.size + 1) vs rfl (by rw [HVS.out]; rfl) 133 (ints .u32 (List.replicate 8 0)).toArray HRr.out HVZ2.out HV8.out HVO2.out ?_)
              exact bodyPost_ret (v := .agg vs) (results_cell_row rfl _ _ (w.heap.size + 1) 133 vs (0, 0) (.array 8 132) rfl HST2.out (by kernel_rfl) rfl HVZ2.out) rfl ⟨by rw [HVF.out], HGF.out⟩
end Go.Proofs.YtjbcfdgnafmbkaaDoor.Sha
