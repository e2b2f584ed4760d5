/- The reference's SHA-256, third part: Sum. -/
import Derived.Test.YtjbcfdgnafmbkaaDoorRefSha2
set_option linter.unusedVariables false
namespace Go.Proofs.YtjbcfdgnafmbkaaDoor.Sha
open Go.RowKit Go.Proofs.YtjbcfdgnafmbkaaDoor Go.Proofs.YtjbcfdgnafmbkaaDoorW.PrintWords Go.Proofs.YtjbcfdgnafmbkaaDoor.PGroup Go.Proofs.YtjbcfdgnafmbkaaDoorW.PrintMore
theorem grownBy_setRow (W : World) (g : Nat) (cs : Array Value) : W.grownBy (W.setRow g cs) (some g) :=
  ⟨rfl, rfl, rfl, Nat.le_of_eq (size_setRow W g cs).symm, fun k _ hk => setRow_other W g k cs (fun e => hk (by rw [e]))⟩
theorem stV_length (s : St) : (stV s).length = 8 := rfl
theorem below_none {A B : World} (h : A.grownBy B none) : Below A.heap.size A B := ⟨h.os, h.tape, h.output, h.size, fun k hk => h.block k hk (by simp)⟩
theorem C_of_byt {w : World} {A : Option Addr} {l : List Nat} (h : Byt w A l) (hl : l.length ≤ 9223372036854775807) : Kd.C (Kd.int .u8) w A l.length (toI l) := by
  refine ⟨toI_length l, hl, fun hp => ?_⟩
  obtain ⟨b, o, rfl, hc⟩ := h.2 hp
  refine ⟨_, rfl, fun j p hj => ?_⟩
  have hjl : j < l.length := by have := (List.getElem?_eq_some_iff.1 hj).1; rwa [toI_length] at this
  refine ⟨[.int .u8 p], rfl, rfl, fun i u hu => ?_⟩
  have hp : p = (l.getD j 0 : Nat) := by
    simp only [toI, List.getElem?_map, List.getElem?_eq_getElem hjl, Option.map_some, Option.some.injEq] at hj
    rw [← hj, List.getD_eq_getElem?_getD, List.getElem?_eq_getElem hjl]; rfl
  match i, hu with
  | 0, hu =>
    cases hu
    show w.cell? ((⟨b, o, none⟩ : Addr).add (j * 1 + 0)) = _
    rw [Nat.mul_one, Nat.add_zero, show (⟨b, o, none⟩ : Addr).add j = ⟨b, o + j, none⟩ from by unfold Addr.add; split <;> simp_all, hp]
    exact hc j hjl
theorem Byt.grown {A B : World} {row : Option Nat} {a : Option Addr} {l : List Nat} (h : Byt A a l) (g : A.grownBy B none) : Byt B a l :=
  ⟨h.1, fun hp => by
    obtain ⟨b, o, e, hc⟩ := h.2 hp
    exact ⟨b, o, e, fun j hj => cell_grown g (hc j hj) (fun r e => by cases e)⟩⟩
theorem blocks_drop (N n : Nat) (st : St) (p : List Nat) (hn : n < N) (h : blocks N H0 p = blocks (N - n) st (p.drop (64 * n))) :
    blocks N H0 p = blocks (N - (n + 1)) (absorb st ((p.drop (64 * n)).take 64)) (p.drop (64 * (n + 1))) := by
  rw [h, show N - n = (N - (n + 1)) + 1 from by omega]
  show blocks _ _ ((p.drop (64 * n)).drop 64) = _
  rw [List.drop_drop, Nat.mul_add]
theorem bytes_get (s : St) (i : Nat) (h : i < 32) : (bytes s).getD i 0 = (stV s).getD (i / 4) 0 / 2 ^ (24 - 8 * (i % 4)) % 256 := by
  obtain ⟨q, r, rfl, hr, hq⟩ : ∃ q r, i = 4 * q + r ∧ r < 4 ∧ q < 8 := ⟨i / 4, i % 4, by omega, by omega, by omega⟩
  rw [show (4 * q + r) / 4 = q from by omega, show (4 * q + r) % 4 = r from by omega]
  match q, hq, r, hr with
  | 0, _, 0, _ => rfl | 0, _, 1, _ => rfl | 0, _, 2, _ => rfl | 0, _, 3, _ => simp [bytes, be4, stV]
  | 1, _, 0, _ => rfl | 1, _, 1, _ => rfl | 1, _, 2, _ => rfl | 1, _, 3, _ => simp [bytes, be4, stV]
  | 2, _, 0, _ => rfl | 2, _, 1, _ => rfl | 2, _, 2, _ => rfl | 2, _, 3, _ => simp [bytes, be4, stV]
  | 3, _, 0, _ => rfl | 3, _, 1, _ => rfl | 3, _, 2, _ => rfl | 3, _, 3, _ => simp [bytes, be4, stV]
  | 4, _, 0, _ => rfl | 4, _, 1, _ => rfl | 4, _, 2, _ => rfl | 4, _, 3, _ => simp [bytes, be4, stV]
  | 5, _, 0, _ => rfl | 5, _, 1, _ => rfl | 5, _, 2, _ => rfl | 5, _, 3, _ => simp [bytes, be4, stV]
  | 6, _, 0, _ => rfl | 6, _, 1, _ => rfl | 6, _, 2, _ => rfl | 6, _, 3, _ => simp [bytes, be4, stV]
  | 7, _, 0, _ => rfl | 7, _, 1, _ => rfl | 7, _, 2, _ => rfl | 7, _, 3, _ => simp [bytes, be4, stV]
set_option maxHeartbeats 2000000 in
set_option maxRecDepth 100000 in
theorem rsum_c (A : Option Addr) (cap : Nat) (l : List Nat) (w : World) (hC : Kd.C (Kd.int .u8) w A l.length (toI l)) (hb : ∀ x ∈ l, x < 256) (hlen : l.length ≤ cap) (hsm : l.length ≤ 35184372088832) :
    Calls Tryd.prog 94 #[.slice A l.length cap] w fun e w' => e = .returned (.agg (ints .u8 (sum l)).toArray) ∧ w.grownBy w' none := by
  obtain ⟨k, hk⟩ := padded_f l hsm
  have hpl := padL_length l
  have hpb := padL_lt hb
  have hps := sum_pad l
  obtain ⟨p, hp⟩ : ∃ p, p = padL l := ⟨_, rfl⟩
  rw [← hp] at hk hpl hpb hps
  have HC := Lib.hid hC
  have HK := Lib.hid hk
  have HPB := Lib.hid hpb
  have HSUM := Lib.hid hps
  obtain ⟨N, hN⟩ : ∃ N, N = l.length / 64 + if l.length % 64 ≤ 55 then 1 else 2 := ⟨_, rfl⟩
  have hNs : N ≤ 549755813890 := by rw [hN]; split <;> omega
  have hN1 : 1 ≤ N := by rw [hN]; split <;> omega
  rw [← hN] at hpl
  have HPL := Lib.hid hpl
  clear hC hk hpb hps hp hN hb
  have hll := toI_length l
  have HLL := Lib.hid hll
  clear hll
  go_enter Tryd.func94, Tryd.ntmps94
  go_wp2_with fail
  generalize hW1 : (w.alloc _).alloc _ = W1
  have hD1 : Arr W1 w.heap.size 30 (ints .u8 (List.replicate 32 0)) := by rw [← hW1]; exact (Arr.new w 30 _).alloc _
  have hS1 : Arr W1 (w.heap.size + 1) 133 (ints .u32 (stV H0)) := by
    rw [← hW1]; have := Arr.new (w.alloc (.cells (ints .u8 (List.replicate 32 0)).toArray 30)) 133 (ints .u32 (stV H0)); rw [show (w.alloc (.cells (ints .u8 (List.replicate 32 0)).toArray 30)).heap.size = w.heap.size + 1 from by simp] at this; exact this
  have hg1 : w.grownBy W1 none := by rw [← hW1]; exact grown_alloc (grown_alloc (grownBy_refl w none) _) _
  clear hW1
  have hpc := signatoryref02_padded.calls k A cap (toI l) (toI p) W1 (by rw [HLL.out]; exact Kd.C_below HC.out (below_none hg1)) (by rw [HLL.out]; exact hlen) HK.out
  rw [HLL.out] at hpc
  refine hpc.mono ?_
  clear hpc
  rintro e w2 ⟨v, rfl, hR2, hb2⟩
  have hD2 := hD1.below hb2 hD1.lt
  have hS2 := hS1.below hb2 hS1.lt
  have hg2 := grown_below hg1 hb2 hg1.size
  obtain ⟨b, c2, rfl, hgb, hglt, _⟩ := Kd.R_form hR2 (by rw [toI_length, HPL.out]; omega)
  obtain ⟨A2, c2', he2, hc2, hr2⟩ := Kd.R_reads hR2
  injection he2 with he2 he3 he4
  subst he2 he4
  clear he3
  have hcap2 : c2 ≤ 9223372036854775807 := R_cap hR2
  have hbS : b ≠ w.heap.size + 1 := by have := hS1.lt; omega
  rw [toI_length] at hc2 hr2 ⊢
  have hby2 := byt_of_C hr2 HPB.out
  have HBY := Lib.hid hby2
  clear hR2 hr2 hby2 hD1 hS1 hg1 hb2
  rw [HPL.out] at hc2 ⊢
  go_wp2
  go_loopg [5] (N + 1) (fun g v w' => ∃ (n : Nat) (st : St), n ≤ N ∧ st.ok ∧ v = .int .i64 (64 * (n : Int)) ∧ Hid (blocks N H0 p = blocks (N - n) st (p.drop (64 * n))) ∧ Arr w' (w.heap.size + 1) 133 (ints .u32 (stV st)) ∧ Arr w' w.heap.size 30 (ints .u8 (List.replicate 32 0)) ∧ w.grownBy w' none ∧ w2.grownBy w' (some (w.heap.size + 1)) ∧ N - n < g)
  case atStart => exact ⟨0, H0, by omega, H0_ok, rfl, Lib.hid rfl, hS2, hD2, hg2, grownBy_refl _ _, by omega⟩
  case round =>
    clear hS2 hD2
    obtain ⟨n, st, hn, hst, rfl, HE, hS, hD, hg, hg3, hgk⟩ := hrel
    by_cases hlt : n < N
    · have t1 : decide ((64 * (n : Int)) < (64 * (N : Int))) = true := decide_eq_true (by omega)
      obtain ⟨b', o, hA2, hcell⟩ := HBY.out.2 (by rw [HPL.out]; omega)
      injection hA2 with hA2
      injection hA2 with hA2 hA3 hA4
      subst hA2 hA3
      clear hA4
      have hdl : (p.drop (64 * n)).length = 64 * N - 64 * n := by rw [List.length_drop, HPL.out]
      have hcell2 : ∀ j, j < 64 → wr.cell? ⟨b, 64 * n + j, none⟩ = some (.int .u8 (((p.drop (64 * n)).take 64).getD j 0 : Nat)) := fun j hj => by
        have := cell_grown hg3 (hcell (64 * n + j) (by rw [HPL.out]; omega)) (fun r e => by cases e; exact hbS)
        rw [Nat.zero_add] at this
        rw [this]
        simp [List.getD, hj]
      have hblk := fun m => rblock_c b (64 * n) (c2 - 64 * n) st hst ((p.drop (64 * n)).take 64) (by rw [List.length_take, hdl]; omega) (fun x hx => HPB.out x (List.mem_of_mem_drop (List.mem_of_mem_take hx))) (wr.drewN m) hcell2 (by omega) (by omega)
      have HE2 : Hid (blocks N H0 p = blocks (N - (n + 1)) (absorb st ((p.drop (64 * n)).take 64)) (p.drop (64 * (n + 1)))) := Lib.hid (blocks_drop N n st p hlt HE.out)
      have hok2 := absorb_ok st ((p.drop (64 * n)).take 64)
      generalize absorb st ((p.drop (64 * n)).take 64) = st2 at *
      have HBL := Lib.hid hblk
      have HSS := Lib.hid hS
      have HDD := Lib.hid hD
      have HOK2 := Lib.hid hok2
      clear hcell hcell2 hdl hblk hok2 HE
      have HGG := Lib.hid hg
      have HG3 := Lib.hid hg3
      obtain ⟨sa, sb, sc, sd, se, sf, sg, sh⟩ := st
      have q0 : wr.cell? ⟨w.heap.size + 1, 0, none⟩ = some (.int .u32 sa) := hS.cell rfl
      have q1 : wr.cell? ⟨w.heap.size + 1, 1, none⟩ = some (.int .u32 sb) := hS.cell rfl
      have q2 : wr.cell? ⟨w.heap.size + 1, 2, none⟩ = some (.int .u32 sc) := hS.cell rfl
      have q3 : wr.cell? ⟨w.heap.size + 1, 3, none⟩ = some (.int .u32 sd) := hS.cell rfl
      have q4 : wr.cell? ⟨w.heap.size + 1, 4, none⟩ = some (.int .u32 se) := hS.cell rfl
      have q5 : wr.cell? ⟨w.heap.size + 1, 5, none⟩ = some (.int .u32 sf) := hS.cell rfl
      have q6 : wr.cell? ⟨w.heap.size + 1, 6, none⟩ = some (.int .u32 sg) := hS.cell rfl
      have q7 : wr.cell? ⟨w.heap.size + 1, 7, none⟩ = some (.int .u32 sh) := hS.cell rfl
      clear hS hD hg hg3 hst
      go_wp2_with fail
      refine wp_region_quiet_tail 6 (by kernel_rfl) (by kernel_rfl) ?_
      simp only [List.take_succ_cons, List.take_zero, List.drop_succ_cons, List.drop_zero]
      repeat (go_big_quiet_step (fail))
      refine wpQuiet_nil ?_
      intro m
      clear q0 q1 q2 q3 q4 q5 q6 q7
      go_wp2_with fail
      refine (HBL.out m).mono ?_
      rintro e w4 ⟨rfl, hg4⟩
      have hS4 := (HSS.out.drewN m).kept hg4 (by simp)
      have hD4 := (HDD.out.drewN m).kept hg4 (by simp)
      have hg5 := grownBy_trans (grown_drewN HGG.out m) hg4
      have hg6 := grownBy_trans (grown_drewN HG3.out m) (grown_row_of_none hg4 (some (w.heap.size + 1)))
      obtain ⟨vs, hvs⟩ : ∃ vs, vs = ints .u32 (stV st2) := ⟨_, rfl⟩
      have hvz : (Tryd.prog.info? 133).map (·.size) = some vs.toArray.size := by rw [show vs.toArray.size = 8 from by rw [hvs, List.size_toArray, ints_length]; rfl]; kernel_rfl
      have hvo : vs.toArray.all (·.oneCell') = true := by rw [hvs]; simp [ints, Value.oneCell']
      have hv8 : (ints .u32 (stV ⟨sa, sb, sc, sd, se, sf, sg, sh⟩)).toArray.size = vs.toArray.size := by rw [hvs, List.size_toArray, List.size_toArray, ints_length, ints_length, stV_length, stV_length]
      have hset := setRow_heap w4 (w.heap.size + 1) _ vs.toArray 133 (0, 0) hS4
      have hgr := grownBy_setRow w4 (w.heap.size + 1) vs.toArray
      have hD7 := hD4.kept hgr (by simp)
      have hg7 := grown_trans_new hg5 hgr (by omega)
      have hg8 := grownBy_trans hg6 hgr
      have HVS := Lib.hid hvs
      have HVZ := Lib.hid hvz
      have HVO := Lib.hid hvo
      have HV8 := Lib.hid hv8
      have HS4 := Lib.hid hS4
      have HS7 := Lib.hid hset
      have HD7 := Lib.hid hD7
      have HG7 := Lib.hid hg7
      have HG8 := Lib.hid hg8
      rw [← hvs]
      clear hvz hvo hv8 hset hgr hD7 hg7 hg8 hg5 hg6 hS4 hD4 hg4 hvs
      go_wp2_with (refine wpList_store_row rfl 133 (.tmp 3) (.tmp 23) rfl (w.heap.size + 1) vs.toArray rfl rfl 133 (ints .u32 (stV ⟨sa, sb, sc, sd, se, sf, sg, sh⟩)).toArray HS4.out HVZ.out HV8.out HVO.out ?_)
      generalize hW8 : w4.setRow _ _ = w8
      have hS8 : Arr w8 (w.heap.size + 1) 133 (ints .u32 (stV st2)) := by rw [← hW8, ← HVS.out]; exact HS7.out
      go_roundg (N - n)
      case rel => exact ⟨n + 1, st2, by omega, HOK2.out, congrArg (Value.int .i64) (by omega), HE2, hS8, by rw [← hW8]; exact HD7.out, by rw [← hW8]; exact HG7.out, by rw [← hW8]; exact HG8.out, by omega⟩
      case measure => omega
    · have : n = N := by omega
      subst this
      have hfe : sum l = bytes st := by rw [HSUM.out, HPL.out, Nat.mul_div_cancel_left _ (by decide), HE.out, Nat.sub_self]; rfl
      have HF := Lib.hid hfe
      clear HE hfe hg3
      obtain ⟨zs, hzs⟩ : ∃ zs, zs = ints .u8 (List.replicate 32 0) := ⟨_, rfl⟩
      have hvz : (Tryd.prog.info? 30).map (·.size) = some zs.toArray.size := by rw [hzs]; kernel_rfl
      have hvo : zs.toArray.all (·.oneCell') = true := by rw [hzs]; kernel_rfl
      have hA0 := Arr.new wr 30 (ints .u8 (List.replicate 32 0))
      have hset := setRow_heap _ _ _ (ints .u8 (List.replicate 32 0)).toArray 30 (0, 0) hA0
      have hbw := below_setRow (Below.refl wr.heap.size (wr.alloc (.cells (ints .u8 (List.replicate 32 0)).toArray 30))) (Nat.le_refl _) (ints .u8 (List.replicate 32 0)).toArray
      have hS1 := (hS.alloc (.cells (ints .u8 (List.replicate 32 0)).toArray 30)).below hbw hS.lt
      have hD1 := (hD.alloc (.cells (ints .u8 (List.replicate 32 0)).toArray 30)).below hbw hD.lt
      have hg1 := grown_below (grown_alloc hg (.cells (ints .u8 (List.replicate 32 0)).toArray 30)) hbw hg.size
      have hlt1 := hS.lt
      have HVZ := Lib.hid hvz
      have HVO := Lib.hid hvo
      have HZS := Lib.hid hzs
      have HA0 := Lib.hid hA0
      have HSET := Lib.hid hset
      have HS1 := Lib.hid hS1
      have HD1 := Lib.hid hD1
      have HG1 := Lib.hid hg1
      clear hvz hvo hzs hA0 hset hbw hS1 hD1 hg1 hS hD hg
      go_upto_block 2 with (refine wpList_store_row rfl 30 (.tmp 6) (.tmp 24) rfl wr.heap.size (ints .u8 (List.replicate 32 0)).toArray rfl rfl 30 (ints .u8 (List.replicate 32 0)).toArray HA0.out (by rw [← HZS.out]; exact HVZ.out) rfl (by rw [← HZS.out]; exact HVO.out) ?_; generalize hW : World.setRow _ _ _ = W5; have hS5 : Arr W5 (w.heap.size + 1) 133 (ints .u32 (stV st)) := (by rw [← hW]; exact HS1.out); have hD5 : Arr W5 w.heap.size 30 (ints .u8 (List.replicate 32 0)) := (by rw [← hW]; exact HD1.out); have hE5 : Arr W5 wr.heap.size 30 (ints .u8 (List.replicate 32 0)) := (by rw [← hW]; exact HSET.out); have hg5 : w.grownBy W5 none := (by rw [← hW]; exact HG1.out); have HS5 := Lib.hid hS5; have HD5 := Lib.hid hD5; have HE5 := Lib.hid hE5; have HG5 := Lib.hid hg5; clear hS5 hD5 hE5 hg5 hW)
      clear HA0 HSET HS1 HD1 HG1
      obtain ⟨E, hE⟩ : ∃ E, E = wr.heap.size := ⟨_, rfl⟩
      rw [← hE] at HE5 ⊢
      have hEw : w.heap.size + 1 < E := by omega
      clear hE hlt1
      go_wp2
      go_loopg [7] 33 (fun g v w' => ∃ i : Nat, i ≤ 32 ∧ v = .int .i64 i ∧ Arr w' E 30 (ints .u8 ((bytes st).take i ++ (List.replicate 32 0).drop i)) ∧ Arr w' (w.heap.size + 1) 133 (ints .u32 (stV st)) ∧ Arr w' w.heap.size 30 (ints .u8 (List.replicate 32 0)) ∧ w.grownBy w' none ∧ 32 - i < g)
      case atStart => exact ⟨0, by omega, rfl, HE5.out, HS5.out, HD5.out, HG5.out, by omega⟩
      case round =>
        clear HE5 HS5 HD5 HG5
        obtain ⟨i, hi, rfl, hE, hS, hD, hg, hgk⟩ := hrel
        by_cases hlt : i < 32
        · have b0 : (i : Int) < 32 := by omega
          obtain ⟨c, hc⟩ : ∃ c, c = 24 - 8 * (i % 4) := ⟨_, rfl⟩
          have hc24 : c ≤ 24 := by omega
          have w1 : IntKind.i64.wrap (24 - 8 * ((i : Int) % 4)) = (c : Int) := by rw [IntKind.wrap_i64]; omega
          have w2 : (24 - 8 * ((i : Int) % 4)) = (c : Int) := by omega
          have cS := hS.cell (ints_get .u32 (stV st) (j := i / 4) (by simp [stV]; omega))
          have cE := hE.cell (ints_get .u8 ((bytes st).take i ++ (List.replicate 32 0).drop i) (j := i) (by simp [bytes_length]; omega))
          have fE := hE.frozen i
          have hs := hE.set i (.int .u8 ((bytes st).getD i 0 : Nat))
          rw [ints_set, cut_set (bytes st) (List.replicate 32 0) i (by rw [bytes_length]; omega) (by simp [bytes_length])] at hs
          rw [cut_get (bytes st) (List.replicate 32 0) i (by rw [bytes_length]; omega)] at cE
          have hget := bytes_get st i hlt
          rw [← hc] at hget
          have HHS := Lib.hid hs
          have HSS := Lib.hid (hS.other (B' := E) (by omega) i (.int .u8 ((bytes st).getD i 0 : Nat)))
          have HDD := Lib.hid (hD.other (B' := E) (by omega) i (.int .u8 ((bytes st).getD i 0 : Nat)))
          have HGG := Lib.hid (grown_new hg (b := E) (by omega) i (.int .u8 ((bytes st).getD i 0 : Nat)))
          clear hs hS hD hg hE
          generalize (stV st).getD (i / 4) 0 = x at *
          generalize (bytes st).getD i 0 = y at *
          generalize (List.replicate 32 0).getD i 0 = z at *
          have hy : ((x : Int) / 2 ^ c % 256) = (y : Int) := by rw [hget]; simp
          clear hget hc
          go_wp2
          have hfix : ((x : Int) / 2 ^ c) % 256 = (y : Int) := hy
          go_roundg (32 - i)
          case rel => exact ⟨i + 1, by omega, by go_num, HHS.out, HSS.out, HDD.out, HGG.out, by omega⟩
          case measure => omega
        · have : i = 32 := by omega
          subst this
          have e32 : (bytes st).take 32 ++ (List.replicate 32 0).drop 32 = bytes st := by
            rw [List.take_of_length_le (by rw [bytes_length]; decide), List.drop_of_length_le (by simp), List.append_nil]
          rw [e32, ← HF.out] at hE
          have hvl : (ints .u8 (sum l)).length = 32 := by rw [HF.out]; rfl
          have hvo : (ints .u8 (sum l)).toArray.all (·.oneCell') = true := by simp [ints, Value.oneCell']
          obtain ⟨vs, hvs⟩ : ∃ vs, vs = ints .u8 (sum l) := ⟨_, rfl⟩
          rw [← hvs] at hE hvl hvo
          have hvz : (Tryd.prog.info? 30).map (·.size) = some vs.toArray.size := by rw [List.size_toArray, hvl]; kernel_rfl
          have hv32 : (ints .u8 (List.replicate 32 0)).toArray.size = vs.toArray.size := by rw [List.size_toArray, List.size_toArray, hvl, ints_length, List.length_replicate]
          have hu : Tryd.prog.underlying 30 = some (.array 32 5) := by kernel_rfl
          have hset := setRow_heap wr w.heap.size _ vs.toArray 30 (0, 0) hD
          have hgf := grown_below hg (below_setRow (Below.refl w.heap.size wr) (Nat.le_refl _) vs.toArray) (Nat.le_refl _)
          have HU := Lib.hid hu
          have HVZ2 := Lib.hid hvz
          have HVO2 := Lib.hid hvo
          have HV32 := Lib.hid hv32
          have HP := Lib.hid hE
          have HDD := Lib.hid hD
          have HSET := Lib.hid hset
          have HGF := Lib.hid hgf
          have HVSU := Lib.hid hvs
          clear hvl hvo hvs hvz hv32 hu hset hgf hE hD hS hg e32
          go_wp2_with (first | (refine wpList_load_row rfl 30 (.tmp 6) rfl E rfl 30 vs.toArray (0, 0) (.array 32 5) HP.out HU.out rfl HVZ2.out ?_) | (refine wpList_store_row rfl 30 (.tmp 2) (.tmp 41) rfl w.heap.size vs.toArray rfl rfl 30 (ints .u8 (List.replicate 32 0)).toArray HDD.out HVZ2.out HV32.out HVO2.out ?_))
          exact bodyPost_ret (v := .agg vs.toArray) (results_cell_row rfl _ _ w.heap.size 30 vs.toArray (0, 0) (.array 32 5) rfl HSET.out HU.out rfl HVZ2.out) rfl ⟨by rw [HVSU.out], HGF.out⟩
end Go.Proofs.YtjbcfdgnafmbkaaDoor.Sha
