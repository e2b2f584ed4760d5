/- Lemmas, walks and printed functions for the claim. -/
import Derived.Test.YtjbcfdgnafmbkaaDoorSDOM24
import Derived.Test.YtjbcfdgnafmbkaaDoorSDOM32
section
set_option linter.unusedVariables false
namespace Go.Proofs.YtjbcfdgnafmbkaaDoor.Dev
open Go.RowKit Go.Proofs.YtjbcfdgnafmbkaaDoor Go.Proofs.YtjbcfdgnafmbkaaDoorW.PrintWords Go.Proofs.YtjbcfdgnafmbkaaDoorW.PrintLast Go.Proofs.YtjbcfdgnafmbkaaDoor.PBig
def lastB (m : List S65) (p t k : Int) (x : S65) : Bool := m.all (fun y => !(selB p t k y) || (decide (y.f1 < x.f1) || (decide (y.f1 = x.f1) && decide (y.f0 ≤ x.f0))))
theorem lastB_iff {m : List S65} {p t k : Int} {x : S65} : lastB m p t k x = true ↔ ∀ y ∈ m, selB p t k y = true → leD y x := by
  unfold lastB leD
  rw [List.all_eq_true]
  constructor
  · intro h y hy hs
    have := h y hy
    rw [hs] at this
    simpa using this
  · intro h y hy
    cases hs : selB p t k y with
    | false => rfl
    | true => have := h y hy hs; simpa using this
theorem one_inner (l : List S65) (p t k n key : Int) (ok fd : Bool) (xs : List S65) (i : Nat) (x : S65) (hl : l.length ≤ 20) (r : Bool)
    (hT : lastB l p t k x = true → (if x.f5 = true then Ev (fun K => signatorylaw48_DevicesOne.l0 K l p t k n key ok (!x.f5) xs (xs.length : Int) (wrap64 ((i : Int) + 1))) r else (x.f0 = n ∧ x.f4 = key ∧ Ev (fun K => signatorylaw48_DevicesOne.l0 K l p t k n key ok (!x.f5) xs (xs.length : Int) (wrap64 ((i : Int) + 1))) r)))
    (hF : lastB l p t k x = false → Ev (fun K => signatorylaw48_DevicesOne.l0 K l p t k n key ok fd xs (xs.length : Int) (wrap64 ((i : Int) + 1))) r) :
    ∀ m j b, j + m = l.length → b = lastB (l.take j) p t k x → Ev (fun K => signatorylaw48_DevicesOne.l1 K l p t k n key ok fd b xs (xs.length : Int) (i : Int) l (l.length : Int) (j : Int) x.f0 x.f1 x.f2 x.f3 x.f4 x.f5) r
  | 0, j, b, hj, hb => by
    rw [List.take_of_length_le (by omega)] at hb
    refine Ev.step (fun K => by rw [signatorylaw48_DevicesOne.l1]) (ev_neg (by omega) ?_)
    subst hb
    cases hL : lastB l p t k x with
    | true =>
      have h := hT hL
      refine ev_pos rfl ?_
      cases hg : x.f5 with
      | true => rw [if_pos hg, hg] at h; exact ev_pos rfl h
      | false =>
        rw [if_neg (by rw [hg]; decide), hg] at h
        exact ev_neg (by decide) (ev_pos h.1 (ev_pos h.2.1 h.2.2))
    | false => exact ev_neg (by decide) (hF hL)
  | m + 1, j, b, hj, hb => by
    have ih := one_inner l p t k n key ok fd xs i x hl r hT hF m (j + 1)
    have hjl : j < l.length := by omega
    have hw : wrap64 ((j : Int) + 1) = ((j + 1 : Nat) : Int) := by rw [wrap_small (by omega) (by omega)]; omega
    have hstep : lastB (l.take (j + 1)) p t k x = (b && (!(selB p t k l[j]) || (decide (l[j].f1 < x.f1) || (decide (l[j].f1 = x.f1) && decide (l[j].f0 ≤ x.f0))))) := by
      rw [hb]
      unfold lastB
      rw [List.take_succ_eq_append_getElem hjl, List.all_append, List.all_cons, List.all_nil, Bool.and_true]
    refine Ev.step (fun K => by rw [signatorylaw48_DevicesOne.l1]) (ev_pos (by omega) (ev_pos (by omega) (ev_pos (by omega) ?_)))
    rw [rd_at l j hjl, hw]
    cases b with
    | false => exact ev_neg (by decide) (ih false (by omega) (by rw [hstep]; rfl))
    | true =>
      refine ev_pos rfl ?_
      rw [Bool.true_and] at hstep
      by_cases c1 : l[j].f3 = p
      · refine ev_pos c1 ?_
        by_cases c2 : l[j].f1 > t
        · exact ev_pos c2 (ih true (by omega) (by
            have : selB p t k l[j] = false := by cases e : selB p t k l[j] with | false => rfl | true => have := (selB_iff.1 e).2.1; omega
            rw [hstep, this]; rfl))
        · refine ev_neg c2 ?_
          by_cases c3 : l[j].f2 > k
          · exact ev_pos c3 (ih true (by omega) (by
              have : selB p t k l[j] = false := by cases e : selB p t k l[j] with | false => rfl | true => have := (selB_iff.1 e).2.2; omega
              rw [hstep, this]; rfl))
          · refine ev_neg c3 ?_
            have hs : selB p t k l[j] = true := selB_iff.2 ⟨c1, by omega, by omega⟩
            rw [hs, Bool.not_true, Bool.false_or] at hstep
            by_cases c4 : l[j].f1 < x.f1
            · exact ev_pos c4 (ih true (by omega) (by rw [hstep, decide_eq_true c4]; rfl))
            · refine ev_neg c4 ?_
              rw [decide_eq_false c4, Bool.false_or] at hstep
              by_cases c5 : l[j].f1 = x.f1
              · exact ev_pos c5 (ih _ (by omega) (by rw [hstep, decide_eq_true c5, Bool.true_and]))
              · exact ev_neg c5 (ih false (by omega) (by rw [hstep, decide_eq_false c5]; rfl))
      · exact ev_neg c1 (ih true (by omega) (by
          have : selB p t k l[j] = false := by cases e : selB p t k l[j] with | false => rfl | true => exact absurd (selB_iff.1 e).1 c1
          rw [hstep, this]; rfl))
theorem one_outer (l : List S65) (p t k : Int) (hl : l.length ≤ 20) (hG : Good l) : ∀ m i fd, i + m = l.length → fd = ((l.take i).any (fun x => decide ((cur l p t k).2 = true ∧ x.f0 = (cur l p t k).1.f0)) && !(cur l p t k).1.f5) →
    Ev (fun K => signatorylaw48_DevicesOne.l0 K l p t k (curT l p t k).1 (curT l p t k).2.1 (okD l p t k) fd l (l.length : Int) (i : Int)) true
  | 0, i, fd, hi, hfd => by
    refine Ev.step (fun K => by rw [signatorylaw48_DevicesOne.l0]) (ev_neg (by omega) (ev_id _ ?_))
    rw [List.take_of_length_le (by omega)] at hfd
    rw [hfd, beq_iff_eq]
    unfold okD
    congr 1
    rcases cur_or hG p t k with h0 | ⟨h1, h2, h3, h4⟩
    · rw [h0]; simp
    · rw [h1, List.any_eq_true]
      exact ⟨_, h2, decide_eq_true ⟨rfl, rfl⟩⟩
  | m + 1, i, fd, hi, hfd => by
    have hil : i < l.length := by omega
    have hw : wrap64 ((i : Int) + 1) = ((i + 1 : Nat) : Int) := by rw [wrap_small (by omega) (by omega)]; omega
    have ih := one_outer l p t k hl hG m (i + 1)
    have hany : ∀ q : S65 → Bool, (l.take (i + 1)).any q = ((l.take i).any q || q l[i]) := fun q => by
      rw [List.take_succ_eq_append_getElem hil, List.any_append, List.any_cons, List.any_nil, Bool.or_false]
    rw [hany] at ih
    refine Ev.step (fun K => by rw [signatorylaw48_DevicesOne.l0]) (ev_pos (by omega) (ev_pos (by omega) (ev_pos (by omega) ?_)))
    rw [rd_at l i hil]
    have skip : selB p t k l[i] = false → Ev (fun K => signatorylaw48_DevicesOne.l0 K l p t k (curT l p t k).1 (curT l p t k).2.1 (okD l p t k) fd l (l.length : Int) (wrap64 ((i : Int) + 1))) true := by
      intro hs
      rw [hw]
      refine ih fd (by omega) ?_
      rw [hfd]
      congr 1
      have : decide ((cur l p t k).2 = true ∧ l[i].f0 = (cur l p t k).1.f0) = false := by
        rw [decide_eq_false_iff_not]
        rintro ⟨h1, h2⟩
        rcases cur_or hG p t k with h0 | ⟨_, h3, h4, _⟩
        · rw [h0] at h1; cases h1
        · rw [hG.no_inj (List.getElem_mem hil) h3 h2, h4] at hs
          cases hs
      rw [this, Bool.or_false]
    have skip4 : selB p t k l[i] = false → Ev (fun K => signatorylaw48_DevicesOne.j4 K l p t k (curT l p t k).1 (curT l p t k).2.1 (okD l p t k) fd l (l.length : Int) (i : Int) true l[i].f0 l[i].f1 l[i].f2 l[i].f3 l[i].f4 l[i].f5) true := fun hs =>
      Ev.step (fun K => by rw [signatorylaw48_DevicesOne.j4]) (ev_pos rfl (skip hs))
    by_cases c1 : l[i].f3 = p
    · refine ev_pos c1 ?_
      by_cases c2 : l[i].f1 > t
      · exact ev_pos c2 (skip4 (by cases e : selB p t k l[i] with | false => rfl | true => have := (selB_iff.1 e).2.1; omega))
      · refine ev_neg c2 ?_
        by_cases c3 : l[i].f2 > k
        · rw [decide_eq_true c3]
          exact skip4 (by cases e : selB p t k l[i] with | false => rfl | true => have := (selB_iff.1 e).2.2; omega)
        · rw [decide_eq_false c3]
          have hs : selB p t k l[i] = true := selB_iff.2 ⟨c1, by omega, by omega⟩
          refine Ev.step (fun K => by rw [signatorylaw48_DevicesOne.j4]) (ev_neg (by decide) ?_)
          obtain ⟨q1, q2, q3, q4⟩ := cur_some hG (List.getElem_mem hil) hs
          refine one_inner l p t k _ _ _ fd l i l[i] hl true ?_ ?_ l.length 0 true (by omega) (by rw [List.take_zero]; rfl)
          · intro hL
            have hle := lastB_iff.1 hL _ q2 q3
            have hge := q4 _ (List.getElem_mem hil) hs
            have he : l[i] = (cur l p t k).1 := hG.no_inj (List.getElem_mem hil) q2 (by unfold leD at hle hge; omega)
            rw [hw]
            have hcont : Ev (fun K => signatorylaw48_DevicesOne.l0 K l p t k (curT l p t k).1 (curT l p t k).2.1 (okD l p t k) (!l[i].f5) l (l.length : Int) ((i + 1 : Nat) : Int)) true := by
              refine ih _ (by omega) ?_
              rw [he, decide_eq_true ⟨q1, rfl⟩, Bool.or_true, Bool.true_and]
            split
            · exact hcont
            · rename_i hg
              have hok : okD l p t k = true := by
                unfold okD
                rw [q1, ← he]
                cases e : l[i].f5 with
                | true => exact absurd e hg
                | false => rfl
              refine ⟨?_, ?_, hcont⟩
              · unfold curT; rw [if_pos hok, he]
              · unfold curT; rw [if_pos hok, he]
          · intro hL
            rw [hw]
            refine ih fd (by omega) ?_
            rw [hfd]
            congr 1
            have : decide ((cur l p t k).2 = true ∧ l[i].f0 = (cur l p t k).1.f0) = false := by
              rw [decide_eq_false_iff_not]
              rintro ⟨_, h2⟩
              have he := hG.no_inj (List.getElem_mem hil) q2 h2
              have : lastB l p t k l[i] = true := lastB_iff.2 (fun y hy hys => by rw [he]; exact q4 y hy hys)
              rw [this] at hL
              cases hL
            rw [this, Bool.or_false]
    · exact ev_neg c1 (skip4 (by cases e : selB p t k l[i] with | false => rfl | true => exact absurd (selB_iff.1 e).1 c1))
theorem one_pure (l : List S65) (p o : Int) (b : List Int) (e s t k : Int) : Ev (fun K => signatorylaw48_DevicesOne.f K l p o b e s t k) true := by
  unfold signatorylaw48_DevicesOne.f
  refine Ev.bind sane_ev (ev_pos rfl (Ev.bind (law_right l p [t, k] (by simp)) ?_))
  have skip : Ev (fun K => signatorylaw48_DevicesOne.j0 K l p o b t k true e s) true := Ev.step (fun K => by rw [signatorylaw48_DevicesOne.j0]) (ev_pos rfl (ev_id _ rfl))
  cases hr : rightL l p [t, k] with
  | false => exact ev_neg (by decide) skip
  | true =>
    obtain ⟨h1, h2, h3, h4⟩ := rightL_true hr
    refine ev_pos rfl ?_
    rw [person_f]
    simp only [Option.bind_some]
    cases ho : inB o 63 with
    | false => exact ev_neg (by decide) skip
    | true =>
      refine ev_pos rfl ?_
      by_cases g3 : (b.length : Int) > 200
      · rw [decide_eq_true g3]; exact skip
      · rw [decide_eq_false g3]
        have hk := h1 k (by simp)
        have ht := h1 t (by simp)
        have ha := argB_mk h4 ht hk
        have hao := argB_mk ho ht hk
        have hG := (chk_ok.1 h3).2
        have hbl : b.length ≤ 1048576 := by omega
        have e1 : ∀ q, (curT l q t k).2.2.2 = 0 := fun q => by unfold curT; split <;> rfl
        have e2 : ∀ q, (curT l q t k).2.2.1 = okD l q t k := fun q => by
          unfold curT
          cases okD l q t k <;> rfl
        have e3 : ∀ q, okD l q t k = true → (curT l q t k).1 = (cur l q t k).1.f0 ∧ (curT l q t k).2.1 = (cur l q t k).1.f4 := fun q hq => by
          unfold curT
          rw [if_pos hq]
          exact ⟨rfl, rfl⟩
        have a0 : (accT l p b e s t k).2.2 = 0 := by unfold accT; split <;> rfl
        refine Ev.step (fun K => by rw [signatorylaw48_DevicesOne.j0]) (ev_neg (by decide) ?_)
        rw [cur_g h3 ha, cur_g h3 hao, acc_g b e s hbl h3 ha]
        simp only [Option.bind_some]
        rw [e1, e1, e2, e2, a0]
        refine ev_pos rfl (ev_pos rfl (ev_pos rfl ?_))
        have l0 : Ev (fun K => signatorylaw48_DevicesOne.l0 K l p t k (curT l p t k).1 (curT l p t k).2.1 (okD l p t k) false l (l.length : Int) 0) true :=
          one_outer l p t k h2 hG l.length 0 false (by omega) (by rw [List.take_zero]; rfl)
        have j2 : Ev (fun K => signatorylaw48_DevicesOne.j2 K l p t k (curT l p t k).1 (curT l p t k).2.1 (okD l p t k) false) true :=
          Ev.step (fun K => by rw [signatorylaw48_DevicesOne.j2]) (ev_neg (by decide) l0)
        have j1 : Ev (fun K => signatorylaw48_DevicesOne.j1 K l p b t k (curT l p t k).1 (curT l p t k).2.1 (okD l p t k) (accT l p b e s t k).1 (accT l p b e s t k).2.1 false e s) true := by
          refine Ev.step (fun K => by rw [signatorylaw48_DevicesOne.j1]) (ev_neg (by decide) ?_)
          by_cases hok : okD l p t k = true
          · refine ev_pos hok ?_
            unfold sign_Verify.f
            rw [if_pos hbl]
            simp only [Option.bind_some]
            have ek := (e3 p hok).2
            unfold accT
            by_cases hv : Cod.vfB (cur l p t k).1.f4 b e s = true
            · rw [if_pos ⟨hok, hv⟩, ek, hv]
              have en := (e3 p hok).1
              refine ev_neg (by simp) (ev_pos rfl ?_)
              have : ((cur l p t k).1.f0 != (curT l p t k).1) = false := by rw [en]; simp
              rw [this, ← ek]
              exact j2
            · rw [if_neg (fun h => hv h.2), ek]
              have : Cod.vfB (cur l p t k).1.f4 b e s = false := by simpa using hv
              rw [this, ← ek]
              exact ev_neg (by decide) (ev_neg (by decide) j2)
          · refine ev_neg hok ?_
            unfold accT
            rw [if_neg (fun h => hok h.1)]
            exact ev_neg (by decide) (ev_neg (by decide) j2)
        by_cases hpo : p = o
        · exact ev_pos hpo j1
        · refine ev_neg hpo ?_
          by_cases hok : okD l p t k = true
          · refine ev_pos hok ?_
            by_cases hoo : okD l o t k = true
            · refine ev_pos hoo ?_
              have : ((curT l p t k).1 == (curT l o t k).1) = false := by
                rw [beq_eq_false_iff_ne, (e3 p hok).1, (e3 o hoo).1]
                intro he
                obtain ⟨x1, x2, _, _⟩ := okD_true hG hok
                obtain ⟨y1, y2, _, _⟩ := okD_true hG hoo
                have := hG.no_inj x1 y1 he
                rw [← this] at y2
                exact hpo ((selB_iff.1 x2).1.symm.trans (selB_iff.1 y2).1)
              rw [this]
              exact j1
            · exact ev_neg hoo j1
          · exact ev_neg hok j1
end Go.Proofs.YtjbcfdgnafmbkaaDoor.Dev
end
