/- Lemmas, walks and printed functions for the claim. -/
import Derived.Test.YtjbcfdgnafmbkaaDoorSDOM16
import Derived.Test.YtjbcfdgnafmbkaaDoorSDOM18
section
set_option linter.unusedVariables false
namespace Go.Proofs.YtjbcfdgnafmbkaaDoor.Dev
open Go.RowKit Go.Proofs.YtjbcfdgnafmbkaaDoor Go.Proofs.YtjbcfdgnafmbkaaDoorW.PrintWords Go.Proofs.YtjbcfdgnafmbkaaDoor.PBig
def atD (l : List S65) (no : Int) : Nat := (l.takeWhile (fun y => decide (y.f0 < no))).length
theorem atD_eq : ∀ (l : List S65) (no : Int) (at_ : Nat), at_ ≤ l.length → (∀ i, i < at_ → (l.getD i z65).f0 < no) → (∀ i, at_ ≤ i → i < l.length → no ≤ (l.getD i z65).f0) → atD l no = at_
  | [], no, at_, h, _, _ => by unfold atD; simp at h; simp [h]
  | x :: r, no, 0, _, _, h2 => by
    have := h2 0 (Nat.le_refl _) (by simp)
    unfold atD
    rw [List.takeWhile_cons_of_neg (by simp at this ⊢; omega)]; rfl
  | x :: r, no, at_ + 1, h, h1, h2 => by
    have := h1 0 (by omega)
    have ih := atD_eq r no at_ (by simpa using h) (fun i hi => by simpa using h1 (i + 1) (by omega)) (fun i a b => by simpa using h2 (i + 1) (by omega) (by simpa using b))
    unfold atD at ih ⊢
    rw [List.takeWhile_cons_of_pos (by simp at this ⊢; omega), List.length_cons, ih]
theorem atD_le (l : List S65) (no : Int) : atD l no ≤ l.length := (List.takeWhile_sublist _).length_le
def foundD (l : List S65) (no : Int) : Bool := decide (atD l no < l.length) && decide ((l.getD (atD l no) z65).f0 = no)
theorem bs_at (l : List S65) (A : Option Addr) (c : Nat) (no : Int) (w : World) (hC : Kd.C k65 w A l.length l) (he : chk l = 0) :
    Calls Tryd.prog 74 #[.slice A l.length c, .int .i64 no, .func (.func 75) #[] #[]] w fun e w' => e = .returned (.tuple #[.int .i64 (atD l no), .bool (foundD l no)]) ∧ Below w.heap.size w w' := by
  obtain ⟨hl, hG⟩ := chk_ok.1 he
  refine (bs_c l A c no w hC hl (fun i j hij hj => ?_)).mono ?_
  · have := List.pairwise_iff_getElem.1 hG.n i j (by omega) hj hij
    rw [List.getD_eq_getElem?_getD, List.getD_eq_getElem?_getD, List.getElem?_eq_getElem hj, List.getElem?_eq_getElem (by omega : i < l.length)]
    exact this
  · rintro e w' ⟨⟨at_, fd, rfl, h1, h2, h3, rfl⟩, hb⟩
    have := atD_eq l no at_ h1 h2 h3
    subst this
    exact ⟨rfl, hb⟩
def addV (l : List S65) (x : S65) : List S65 × Int :=
  if chk l ≠ 0 then ([], chk l) else if rightD x = false then ([], 480) else if (foundD l x.f0 || l.any (againB x)) = true then ([], 151) else if l.length = 1024 then ([], 2) else (insL l (atD l x.f0) x, 0)
def argD (x : S65) : Value := .agg #[.int .i64 x.f0, .int .i64 x.f1, .int .i64 x.f2, .int .i64 x.f3, .int .i64 x.f4, .bool x.f5]
theorem ins_a (l : List S65) (x : S65) (at_ B : Nat) (hl : l.length ≤ 1024) (ha : at_ ≤ l.length) (v5 : Value) (w5 : World) (hR : Kd.R k65 65 w5 B (fun _ => True) v5 l) (hB : B ≤ w5.heap.size) :
    Calls Tryd.prog 80 #[v5, .int .i64 at_, .slice (some ⟨w5.heap.size, 0, none⟩) 1 1] (w5.alloc (.cells #[.int .i64 x.f0, .int .i64 x.f1, .int .i64 x.f2, .int .i64 x.f3, .int .i64 x.f4, .bool x.f5] 65)) fun e w' => ∃ v', e = .returned v' ∧ Kd.R k65 65 w' B (fun _ => True) v' (insL l at_ x) ∧ Below B (w5.alloc (.cells #[.int .i64 x.f0, .int .i64 x.f1, .int .i64 x.f2, .int .i64 x.f3, .int .i64 x.f4, .bool x.f5] 65)) w' :=
  insert_c l v5 x at_ B w5.heap.size _ (Kd.R_alloc hR _) (by simp; omega) (blk_new w5 _) (fun e => by have := Kd.R_lt hR _ e.symm; omega) (by omega) ha
theorem ins_b (l : List S65) (x : S65) (at_ vb B : Nat) (w5 : World) (hl : l.length ≤ 1024) (ha : at_ ≤ l.length) (v5 : Value) (hR : Kd.R k65 65 w5 B (fun _ => True) v5 l) (hB : B ≤ w5.heap.size) (hvb : vb < B) (hv : w5.heap[vb]? = some (.cells #[.int .i64 x.f0, .int .i64 x.f1, .int .i64 x.f2, .int .i64 x.f3, .int .i64 x.f4, .bool x.f5] 65 (0, 0))) :
    Calls Tryd.prog 80 #[v5, .int .i64 at_, .slice (some ⟨vb, 0, none⟩) 1 1] w5 fun e w' => ∃ v', e = .returned v' ∧ Kd.R k65 65 w' B (fun _ => True) v' (insL l at_ x) ∧ Below B w5 w' :=
  insert_c l v5 x at_ B vb w5 hR hB hv (fun e => by have := Kd.R_base hR _ e.symm; omega) (by omega) ha
theorem six_keep {wa wb : World} {b B : Nat} {v0 v1 v2 v3 v4 v5 : Value} (h : wa.heap[b]? = some (.cells #[v0, v1, v2, v3, v4, v5] 65 (0, 0))) (hb : Below B wa wb) (hB : b < B) :
    wb.cell? ⟨b, 0, none⟩ = some v0 ∧ wb.cell? ⟨b, 1, none⟩ = some v1 ∧ wb.cell? ⟨b, 2, none⟩ = some v2 ∧ wb.cell? ⟨b, 3, none⟩ = some v3 ∧ wb.cell? ⟨b, 4, none⟩ = some v4 ∧ wb.cell? ⟨b, 5, none⟩ = some v5 := by
  have BK := (hb.block b hB).trans h
  exact ⟨(blk_cell BK 0).trans rfl, (blk_cell BK 1).trans rfl, (blk_cell BK 2).trans rfl, (blk_cell BK 3).trans rfl, (blk_cell BK 4).trans rfl, (blk_cell BK 5).trans rfl⟩
def AddPost (w : World) (r : List S65 × Int) (e : Ending) (w' : World) : Prop := ∃ v0_ : Value, e = .returned (.tuple #[v0_, .int .i64 r.2]) ∧ Kd.R k65 65 w' w.heap.size (fun _ => True) v0_ r.1 ∧ Below w.heap.size w w'
set_option maxHeartbeats 1000000 in
theorem add_err (l : List S65) (A : Option Addr) (c : Nat) (x : S65) (w : World) (hC : Kd.C k65 w A l.length l) (he : chk l ≠ 0) :
    Calls Tryd.prog 42 #[.slice A l.length c, argD x] w (AddPost w ([], chk l)) := by
  have HC := Lib.hid (fun W (hb : Below w.heap.size w W) => check_c l A c W (Kd.C_below hC hb))
  generalize chk l = ck at *
  have t2 : (ck != 0) = true := bne_iff_ne.mpr he
  have t1 : (ck == 0) = false := beq_eq_false_iff_ne.mpr he
  clear hC he
  unfold argD
  go_enter Tryd.func42, Tryd.ntmps42
  go_wp2_with fail
  refine (HC.out _ (below_alloc (Below.refl _ w) _)).mono ?_
  rintro e w1 ⟨rfl, hb1⟩
  have HB := Lib.hid (below_step (below_alloc (Below.refl _ w) _) hb1)
  clear hb1
  go_wp2
  go_ret2
  exact ⟨_, rfl, Kd.R_nil _ _ _ _ _, HB.out⟩
set_option maxHeartbeats 4000000 in
set_option maxRecDepth 100000 in
theorem add_go (l : List S65) (A : Option Addr) (c : Nat) (x : S65) (w : World) (hC : Kd.C k65 w A l.length l) (he : chk l = 0) :
    Calls Tryd.prog 42 #[.slice A l.length c, argD x] w (AddPost w (addV l x)) := by
  have hl := (chk_ok.1 he).1
  obtain ⟨R, hR⟩ : ∃ R, addV l x = R := ⟨_, rfl⟩
  rw [hR]
  unfold addV at hR
  rw [if_neg (fun h => h he)] at hR
  have HK := Lib.hid hC
  have HC := Lib.hid (fun W (hb : Below w.heap.size w W) => check_c l A c W (Kd.C_below hC hb))
  rw [he] at HC
  have HS := Lib.hid (fun W (hb : Below w.heap.size w W) => bs_at l A c x.f0 W (Kd.C_below hC hb) he)
  have HA := Lib.hid (fun W B (hb : Below w.heap.size w W) (hB : BoxD W B x) => contains_c l A c x B W (Kd.C_below hC hb) hB)
  have HRt := Lib.hid (fun W => right_c x W)
  have HL := Lib.hid hl
  obtain ⟨fd, hfd⟩ : ∃ fd, foundD l x.f0 = fd := ⟨_, rfl⟩
  obtain ⟨ag, hag⟩ : ∃ ag, l.any (againB x) = ag := ⟨_, rfl⟩
  obtain ⟨rt, hrt⟩ : ∃ rt, rightD x = rt := ⟨_, rfl⟩
  have HAT := Lib.hid (atD_le l x.f0)
  generalize atD l x.f0 = at_ at *
  rw [hfd] at HS hR
  rw [hag] at HA hR
  rw [hrt] at HRt hR
  have HR1 : Hid (rt = false → ([], 480) = R) := Lib.hid (fun h => by rw [← hR, if_pos h])
  have HR2 : Hid (rt = true → (fd || ag) = true → ([], 151) = R) := Lib.hid (fun h k => by rw [← hR, if_neg (by rw [h]; decide), if_pos k])
  have HR3 : Hid (rt = true → (fd || ag) = false → l.length = 1024 → ([], 2) = R) := Lib.hid (fun h k m => by rw [← hR, if_neg (by rw [h]; decide), if_neg (by rw [k]; decide), if_pos m])
  have HR4 : Hid (rt = true → (fd || ag) = false → l.length ≠ 1024 → (insL l at_ x, 0) = R) := Lib.hid (fun h k m => by rw [← hR, if_neg (by rw [h]; decide), if_neg (by rw [k]; decide), if_neg m])
  clear hC he hl hfd hag hrt hR
  obtain ⟨x0, x1, x2, x3, x4, x5⟩ := x
  unfold argD
  unfold BoxD at HA
  simp only at HS HA HRt ⊢
  go_enter Tryd.func42, Tryd.ntmps42
  go_wp2_with fail
  refine (HC.out _ (below_alloc (Below.refl _ w) _)).mono ?_
  rintro e w1 ⟨rfl, hb1⟩
  have BK1 := Lib.hid (blk_below (blk_new w _) hb1)
  have HB1 := Lib.hid (below_step (below_alloc (Below.refl _ w) _) hb1)
  have q0 : w1.cell? ⟨w.heap.size, 0, none⟩ = some (.int .i64 x0) := (blk_cell BK1.out 0).trans rfl
  clear hb1 HC
  go_wp2_with fail
  refine (HS.out _ HB1.out).mono ?_
  rintro e w2 ⟨rfl, hb2⟩
  have BK2 := Lib.hid (blk_below BK1.out hb2)
  have HB2 := Lib.hid (below_step HB1.out hb2)
  clear hb2 HS q0 BK1 HB1
  go_wp2_with fail
  refine (HA.out _ _ HB2.out BK2.out).mono ?_
  rintro e w3 ⟨rfl, hb3⟩
  have BK3 := Lib.hid (blk_below BK2.out hb3)
  have HB3 := Lib.hid (below_step HB2.out hb3)
  have q0 : w3.cell? ⟨w.heap.size, 0, none⟩ = some (.int .i64 x0) := (blk_cell BK3.out 0).trans rfl
  have q1 : w3.cell? ⟨w.heap.size, 1, none⟩ = some (.int .i64 x1) := (blk_cell BK3.out 1).trans rfl
  have q2 : w3.cell? ⟨w.heap.size, 2, none⟩ = some (.int .i64 x2) := (blk_cell BK3.out 2).trans rfl
  have q3 : w3.cell? ⟨w.heap.size, 3, none⟩ = some (.int .i64 x3) := (blk_cell BK3.out 3).trans rfl
  have q4 : w3.cell? ⟨w.heap.size, 4, none⟩ = some (.int .i64 x4) := (blk_cell BK3.out 4).trans rfl
  have q5 : w3.cell? ⟨w.heap.size, 5, none⟩ = some (.bool x5) := (blk_cell BK3.out 5).trans rfl
  clear hb3 HA BK2 HB2
  go_wp2_with fail
  refine (HRt.out _).mono ?_
  rintro e w4 ⟨rfl, hb4⟩
  have BK4 := Lib.hid (blk_below BK3.out hb4)
  have HB4 := Lib.hid (below_step HB3.out hb4)
  clear hb4 HRt BK3 HB3 q0 q1 q2 q3 q4 q5
  cases rt with
  | false =>
    have HRR := Lib.hid (HR1.out rfl)
    clear HR1 HR2 HR3 HR4
    go_wp2
    go_ret2
    rw [← HRR.out]
    exact ⟨_, rfl, Kd.R_nil _ _ _ _ _, HB4.out⟩
  | true =>
    obtain ⟨fa, hfa⟩ : ∃ fa, (fd || ag) = fa := ⟨_, rfl⟩
    cases fa with
    | true =>
      have HRR := Lib.hid (HR2.out rfl hfa)
      clear HR1 HR2 HR3 HR4
      cases fd <;> cases ag <;> first | (exact absurd hfa (by decide)) | skip
      all_goals clear hfa
      all_goals go_wp2
      all_goals go_ret2
      all_goals rw [← HRR.out]
      all_goals exact ⟨_, rfl, Kd.R_nil _ _ _ _ _, HB4.out⟩
    | false =>
      by_cases hm : l.length = 1024
      · have HRR := Lib.hid (HR3.out rfl hfa hm)
        clear HR1 HR2 HR3 HR4
        cases fd <;> cases ag <;> first | (exact absurd hfa (by decide)) | skip
        clear hfa
        have t1 : ((l.length : Int) == 1024) = true := by rw [hm]; rfl
        have HM := Lib.hid hm
        clear hm
        go_wp2
        go_ret2
        rw [← HRR.out]
        exact ⟨_, rfl, Kd.R_nil _ _ _ _ _, HB4.out⟩
      · have HRR := Lib.hid (HR4.out rfl hfa hm)
        clear HR1 HR2 HR3 HR4
        cases fd <;> cases ag <;> first | (exact absurd hfa (by decide)) | skip
        clear hfa
        have t1 : ((l.length : Int) == 1024) = false := beq_eq_false_iff_ne.mpr (by omega)
        have q0 : w4.cell? ⟨w.heap.size, 0, none⟩ = some (.int .i64 x0) := (blk_cell BK4.out 0).trans rfl
        have q1 : w4.cell? ⟨w.heap.size, 1, none⟩ = some (.int .i64 x1) := (blk_cell BK4.out 1).trans rfl
        have q2 : w4.cell? ⟨w.heap.size, 2, none⟩ = some (.int .i64 x2) := (blk_cell BK4.out 2).trans rfl
        have q3 : w4.cell? ⟨w.heap.size, 3, none⟩ = some (.int .i64 x3) := (blk_cell BK4.out 3).trans rfl
        have q4 : w4.cell? ⟨w.heap.size, 4, none⟩ = some (.int .i64 x4) := (blk_cell BK4.out 4).trans rfl
        have q5 : w4.cell? ⟨w.heap.size, 5, none⟩ = some (.bool x5) := (blk_cell BK4.out 5).trans rfl
        have hne4 : ¬ w.heap.size = w4.heap.size := by have := blk_lt BK4.out; omega
        have HKC := Lib.hid (fun W (hb : Below w.heap.size w W) => clone_c l A c W (Kd.C_below HK.out hb) (by have := HL.out; omega))
        go_wp2
        have hD : Hid (Below w.heap.size w w4.drew) := Lib.hid (below_drew HB4.out)
        have hDa : Hid (Below w.heap.size w (w4.alloc (.cells #[.int .i64 x0, .int .i64 x1, .int .i64 x2, .int .i64 x3, .int .i64 x4, .bool x5] 65)).drew) := Lib.hid (below_drew (below_alloc HB4.out _))
        have BKd : Hid (w4.drew.heap[w.heap.size]? = some (.cells #[.int .i64 x0, .int .i64 x1, .int .i64 x2, .int .i64 x3, .int .i64 x4, .bool x5] 65 (0, 0))) := Lib.hid (blk_drew BK4.out)
        have BKa : Hid ((w4.alloc (.cells #[.int .i64 x0, .int .i64 x1, .int .i64 x2, .int .i64 x3, .int .i64 x4, .bool x5] 65)).drew.heap[w.heap.size]? = some (.cells #[.int .i64 x0, .int .i64 x1, .int .i64 x2, .int .i64 x3, .int .i64 x4, .bool x5] 65 (0, 0))) := Lib.hid (blk_drew (blk_alloc BK4.out _))
        have BKn : Hid ((w4.alloc (.cells #[.int .i64 x0, .int .i64 x1, .int .i64 x2, .int .i64 x3, .int .i64 x4, .bool x5] 65)).drew.heap[w4.heap.size]? = some (.cells #[.int .i64 x0, .int .i64 x1, .int .i64 x2, .int .i64 x3, .int .i64 x4, .bool x5] 65 (0, 0))) := Lib.hid (blk_drew (blk_new w4 _))
        have hle4 : Hid (w.heap.size < w4.heap.size) := Lib.hid (by have := HB4.out.size; omega)
        go_region_held3 (fun w' => w'.cell? ⟨w.heap.size, 0, none⟩ = some (.int .i64 x0) ∧ w'.cell? ⟨w.heap.size, 1, none⟩ = some (.int .i64 x1) ∧ w'.cell? ⟨w.heap.size, 2, none⟩ = some (.int .i64 x2) ∧ w'.cell? ⟨w.heap.size, 3, none⟩ = some (.int .i64 x3) ∧ w'.cell? ⟨w.heap.size, 4, none⟩ = some (.int .i64 x4) ∧ w'.cell? ⟨w.heap.size, 5, none⟩ = some (.bool x5)) (first | go_keep | exact hk1 | exact hk2)
          (first
            | (go_at_call 81; ((with_reducible refine (HKC.out w4.drew hD.out).mono ?_); rintro e w5 ⟨v5, rfl, hR, hb⟩; have hk1 := six_keep BKd.out hb (blk_lt BKd.out); have BK5 := Lib.hid (blk_below BKd.out hb); have HB5 := Lib.hid (below_step hD.out hb); have hne5 : ¬ w.heap.size = w5.heap.size := (by have := blk_lt BK5.out; omega); have HR5 := Lib.hid (show Kd.R k65 65 w5 w4.heap.size (fun _ => True) v5 l from hR); have HZ5 := Lib.hid (show w4.heap.size ≤ w5.heap.size from hb.size); have BK5a := Lib.hid (blk_alloc BK5.out (.cells #[.int .i64 x0, .int .i64 x1, .int .i64 x2, .int .i64 x3, .int .i64 x4, .bool x5] 65)); clear hR hb))
            | (go_at_call 81; ((with_reducible refine (HKC.out (w4.alloc _).drew hDa.out).mono ?_); rintro e w5 ⟨v5, rfl, hR, hb⟩; have hk1 := six_keep BKa.out hb (blk_lt BKa.out); have BKn5 := Lib.hid (blk_below BKn.out hb); have BK5 := Lib.hid (blk_below BKa.out hb); have HB5 := Lib.hid (below_step hDa.out hb); have HRb := Lib.hid (show Kd.R k65 65 w5 (w4.heap.size + 1) (fun _ => True) v5 l by have := hR; simpa using this); have HZ5 := Lib.hid (show w4.heap.size + 1 ≤ w5.heap.size by have := hb.size; simpa using this); clear hR hb))
            | (go_at_call 80; ((with_reducible refine (ins_a l ⟨x0, x1, x2, x3, x4, x5⟩ at_ w4.heap.size HL.out HAT.out v5 w5 HR5.out HZ5.out).mono ?_); rintro e w6 ⟨v6, rfl, hR6, hb6⟩; have hk2 := six_keep BK5a.out hb6 hle4.out; have HR6 := Lib.hid (Kd.R_lower hR6 (Nat.le_of_lt hle4.out)); have HB6 := Lib.hid ((below_alloc HB5.out _).trans (hb6.mono (Nat.le_of_lt hle4.out))); clear hR6 hb6))
            | (go_at_call 80; ((with_reducible refine (ins_b l ⟨x0, x1, x2, x3, x4, x5⟩ at_ w4.heap.size (w4.heap.size + 1) w5 HL.out HAT.out v5 HRb.out HZ5.out (Nat.lt_succ_self _) BKn5.out).mono ?_); rintro e w6 ⟨v6, rfl, hR6, hb6⟩; have hk2 := six_keep BK5.out hb6 (Nat.lt_succ_of_lt hle4.out); have HR6 := Lib.hid (Kd.R_lower hR6 (Nat.le_of_lt (Nat.lt_succ_of_lt hle4.out))); have HB6 := Lib.hid (HB5.out.trans (hb6.mono (Nat.le_of_lt (Nat.lt_succ_of_lt hle4.out)))); clear hR6 hb6)))
        all_goals go_wp2
        all_goals go_ret2
        all_goals rw [← HRR.out]
        all_goals exact ⟨_, rfl, HR6.out, HB6.out⟩
end Go.Proofs.YtjbcfdgnafmbkaaDoor.Dev
namespace Go.Proofs.YtjbcfdgnafmbkaaDoor.PBig
open Go.RowKit Go.Proofs.YtjbcfdgnafmbkaaDoor Go.Proofs.YtjbcfdgnafmbkaaDoorW.PrintWords
def devices_Add.f (l0 : List S65) (a1_0 a1_1 a1_2 a1_3 a1_4 : Int) (a1_5 : Bool) : Option (List S65 × Int) := some (Dev.addV l0 ⟨a1_0, a1_1, a1_2, a1_3, a1_4, a1_5⟩)
theorem devices_Add.calls (A0 : Option Addr) (c0 : Nat) (l0 : List S65) (a1_0 a1_1 a1_2 a1_3 a1_4 : Int) (a1_5 : Bool) (r1 : List S65) (r2 : Int) (w : World) (hr0 : Kd.C k65 w A0 l0.length l0) (hc0 : l0.length ≤ c0) (h : devices_Add.f l0 a1_0 a1_1 a1_2 a1_3 a1_4 a1_5 = some (r1, r2)) :
    Calls Tryd.prog 42 #[.slice A0 l0.length c0, .agg #[.int .i64 a1_0, .int .i64 a1_1, .int .i64 a1_2, .int .i64 a1_3, .int .i64 a1_4, .bool a1_5]] w fun e w' => ∃ v0_ : Value, e = .returned (.tuple #[v0_, .int .i64 r2]) ∧ Kd.R k65 65 w' w.heap.size (fun _ => True) v0_ r1 ∧ Below w.heap.size w w' := by
  have h := Option.some.inj h
  by_cases he : Dev.chk l0 = 0
  · have := Dev.add_go l0 A0 c0 ⟨a1_0, a1_1, a1_2, a1_3, a1_4, a1_5⟩ w hr0 he
    rw [h] at this
    exact this
  · have := Dev.add_err l0 A0 c0 ⟨a1_0, a1_1, a1_2, a1_3, a1_4, a1_5⟩ w hr0 he
    rw [show (([], Dev.chk l0) : List S65 × Int) = (r1, r2) from by rw [← h]; unfold Dev.addV; rw [if_pos he]] at this
    exact this
end Go.Proofs.YtjbcfdgnafmbkaaDoor.PBig
end
