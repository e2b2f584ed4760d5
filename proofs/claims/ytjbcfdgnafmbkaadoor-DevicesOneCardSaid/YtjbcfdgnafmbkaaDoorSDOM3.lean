/- Lemmas, walks and printed functions for the claim. -/
section
set_option linter.unusedVariables false
namespace Go.Proofs.YtjbcfdgnafmbkaaDoor.Num
def sumTo (f : Nat → Nat) : Nat → Nat
  | 0 => 0
  | h + 1 => sumTo f h + f (h + 1)
theorem sumTo_congr {f g : Nat → Nat} : ∀ {h : Nat}, (∀ k, 1 ≤ k → k ≤ h → f k = g k) → sumTo f h = sumTo g h
  | 0, _ => rfl
  | h + 1, H => by
    rw [sumTo, sumTo, sumTo_congr (h := h) fun k h1 h2 => H k h1 (by omega), H (h + 1) (by omega) (by omega)]
theorem sumTo_add (f g : Nat → Nat) : ∀ h, sumTo (fun k => f k + g k) h = sumTo f h + sumTo g h
  | 0 => rfl
  | h + 1 => by rw [sumTo, sumTo, sumTo, sumTo_add f g h]; omega
theorem sumTo_const (c : Nat) : ∀ h, sumTo (fun _ => c) h = c * h
  | 0 => rfl
  | h + 1 => by rw [sumTo, sumTo_const c h, Nat.mul_succ]
theorem sumTo_mod {f g : Nat → Nat} : ∀ {h : Nat}, (∀ k, 1 ≤ k → k ≤ h → f k % 2 = g k % 2) → sumTo f h % 2 = sumTo g h % 2
  | 0, _ => rfl
  | h + 1, H => by
    have := sumTo_mod (h := h) fun k h1 h2 => H k h1 (by omega)
    have := H (h + 1) (by omega) (by omega)
    rw [sumTo, sumTo]; omega
theorem sumTo_swap (f : Nat → Nat → Nat) (g : Nat) : ∀ h, sumTo (fun k => sumTo (f k) g) h = sumTo (fun j => sumTo (fun k => f k j) h) g
  | 0 => by simp only [sumTo]; rw [sumTo_const, Nat.zero_mul]
  | h + 1 => by simp only [sumTo]; rw [sumTo_swap f g h, sumTo_add]
theorem sumTo_list (f : Nat → Nat) : ∀ h, sumTo f h = ((List.range' 1 h).map f).sum
  | 0 => rfl
  | h + 1 => by rw [sumTo, sumTo_list f h, List.range'_1_concat, List.map_append, List.sum_append]; simp [Nat.add_comm]
theorem sumTo_le (q : Nat) : ∀ g, q ≤ g → sumTo (fun j => if j ≤ q then 1 else 0) g = q
  | 0, h => by simp only [sumTo]; omega
  | g + 1, h => by
    rw [sumTo]
    by_cases e : q = g + 1
    · subst e
      rw [if_pos (Nat.le_refl _), sumTo_congr (g := fun _ => 1) fun k _ h2 => if_pos (by omega), sumTo_const]; omega
    · rw [sumTo_le q g (by omega), if_neg (by omega)]; rfl
theorem perm_rng : ∀ (h : Nat) (l : List Nat), l.Nodup → (∀ x ∈ l, 1 ≤ x ∧ x ≤ h) → l.length ≤ h ∧ (l.length = h → l.Perm (List.range' 1 h))
  | 0, l, _, hb => by
    cases l with
    | nil => exact ⟨Nat.le_refl _, fun _ => List.Perm.refl _⟩
    | cons x l => have := hb x (by simp); omega
  | h + 1, l, hn, hb => by
    by_cases hm : h + 1 ∈ l
    · have hp := List.perm_cons_erase hm
      have hn' : (l.erase (h + 1)).Nodup := hn.erase _
      have hb' : ∀ x ∈ l.erase (h + 1), 1 ≤ x ∧ x ≤ h := fun x hx => by
        have h1 := (hn.mem_erase_iff).1 hx
        have := hb x h1.2
        have := h1.1
        omega
      obtain ⟨i1, i2⟩ := perm_rng h _ hn' hb'
      have hl := hp.length_eq
      simp only [List.length_cons] at hl
      refine ⟨by omega, fun e => ?_⟩
      refine hp.trans ?_
      rw [List.range'_1_concat, Nat.add_comm 1 h]
      exact ((i2 (by omega)).cons _).trans (List.perm_append_comm (l₁ := [h + 1]))
    · obtain ⟨i1, i2⟩ := perm_rng h l hn fun x hx => by
        have := hb x hx
        have : x ≠ h + 1 := fun e => hm (e ▸ hx)
        omega
      exact ⟨by omega, fun e => by omega⟩
theorem sum_perm {l l' : List Nat} (h : l.Perm l') : l.sum = l'.sum := h.sum_nat
theorem sumTo_perm (f p : Nat → Nat) (h : Nat) (hr : ∀ k, 1 ≤ k → k ≤ h → 1 ≤ p k ∧ p k ≤ h) (hi : ∀ k k', 1 ≤ k → k ≤ h → 1 ≤ k' → k' ≤ h → p k = p k' → k = k') :
    sumTo (fun k => f (p k)) h = sumTo f h := by
  rw [sumTo_list, sumTo_list]
  have : (List.range' 1 h).map (fun k => f (p k)) = ((List.range' 1 h).map p).map f := by simp
  rw [this]
  refine sum_perm (List.Perm.map f ?_)
  refine (perm_rng h _ ?_ ?_).2 (by simp)
  · refine List.Pairwise.map _ (R := fun a b => (1 ≤ a ∧ a ≤ h) ∧ (1 ≤ b ∧ b ≤ h) ∧ a ≠ b) ?_ ?_
    · rintro a b ⟨h1, h2, h3⟩ e
      exact h3 (hi a b h1.1 h1.2 h2.1 h2.2 e)
    · refine List.Pairwise.imp_of_mem (R := fun a b => a ≠ b) ?_ List.nodup_range'
      intro a b ha hb hne
      simp [List.mem_range'_1] at ha hb
      exact ⟨by omega, by omega, hne⟩
  · intro x hx
    obtain ⟨k, hk, rfl⟩ := List.mem_map.1 hx
    simp [List.mem_range'_1] at hk
    exact hr k (by omega) (by omega)
def rs (n a k : Nat) : Nat := a * k % n
def ab (n a k : Nat) : Nat := if n < 2 * (a * k % n) then n - a * k % n else a * k % n
def sg (n a k : Nat) : Nat := if n < 2 * (a * k % n) then 1 else 0
def mu (n a : Nat) : Nat := sumTo (sg n a) (n / 2)
theorem mod_pos {n a k : Nat} (hc : Nat.Coprime a n) (h1 : 1 ≤ k) (h2 : k < n) : 0 < a * k % n := by
  rcases Nat.eq_zero_or_pos (a * k % n) with e | e
  · have hd : n ∣ a * k := Nat.dvd_of_mod_eq_zero e
    have hd2 : n ∣ k := (Nat.Coprime.symm hc).dvd_of_dvd_mul_left hd
    have := Nat.le_of_dvd (by omega) hd2
    omega
  · exact e
theorem ab_range {n a k : Nat} (hc : Nat.Coprime a n) (h1 : 1 ≤ k) (h2 : k ≤ n / 2) : 1 ≤ ab n a k ∧ ab n a k ≤ n / 2 := by
  have hp := mod_pos hc h1 (by omega)
  have hl := Nat.mod_lt (a * k) (show 0 < n by omega)
  unfold ab
  split <;> omega
theorem inj_lt {n a k k' : Nat} (hc : Nat.Coprime a n) (h : k < k') (h' : k' < n) : a * k % n ≠ a * k' % n := by
  intro e
  have hd : n ∣ a * k' - a * k := Nat.dvd_of_mod_eq_zero (Nat.sub_mod_eq_zero_of_mod_eq e.symm)
  rw [← Nat.mul_sub] at hd
  have := Nat.le_of_dvd (by omega) ((Nat.Coprime.symm hc).dvd_of_dvd_mul_left hd)
  omega
theorem ab_inj {n a k k' : Nat} (ho : n % 2 = 1) (hc : Nat.Coprime a n) (h1 : 1 ≤ k) (h2 : k ≤ n / 2) (h1' : 1 ≤ k') (h2' : k' ≤ n / 2) (e : ab n a k = ab n a k') : k = k' := by
  have hp := mod_pos hc h1 (by omega)
  have hp' := mod_pos hc h1' (by omega)
  have hl := Nat.mod_lt (a * k) (show 0 < n by omega)
  have hl' := Nat.mod_lt (a * k') (show 0 < n by omega)
  have key : a * k % n = a * k' % n ∨ a * k % n + a * k' % n = n := by
    unfold ab at e
    split at e <;> split at e <;> omega
  rcases key with e2 | e2
  · rcases Nat.lt_trichotomy k k' with h | h | h
    · exact absurd e2 (inj_lt hc h (by omega))
    · exact h
    · exact absurd e2.symm (inj_lt hc h (by omega))
  · exfalso
    have hd : n ∣ a * (k + k') := by
      refine Nat.dvd_of_mod_eq_zero ?_
      rw [Nat.mul_add, Nat.add_mod, e2, Nat.mod_self]
    have := Nat.le_of_dvd (by omega) ((Nat.Coprime.symm hc).dvd_of_dvd_mul_left hd)
    omega
theorem sumTo_ab (f : Nat → Nat) {n a : Nat} (ho : n % 2 = 1) (hc : Nat.Coprime a n) : sumTo (fun k => f (ab n a k)) (n / 2) = sumTo f (n / 2) :=
  sumTo_perm f (ab n a) _ (fun _ h1 h2 => ab_range hc h1 h2) fun _ _ h1 h2 h3 h4 e => ab_inj ho hc h1 h2 h3 h4 e
theorem sg_mul {n a b k : Nat} (ho : n % 2 = 1) (ha : Nat.Coprime a n) (hb : Nat.Coprime b n) (h1 : 1 ≤ k) (h2 : k ≤ n / 2) :
    sg n (a * b) k % 2 = (sg n b k + sg n a (ab n b k)) % 2 := by
  have hp := mod_pos hb h1 (by omega)
  have hl := Nat.mod_lt (b * k) (show 0 < n by omega)
  have e : a * b * k % n = a * (b * k % n) % n := by rw [Nat.mul_assoc, Nat.mul_mod a (b * k), Nat.mul_mod a (b * k % n), Nat.mod_mod]
  have hp2 := mod_pos ha hp hl
  have hl2 := Nat.mod_lt (a * (b * k % n)) (show 0 < n by omega)
  unfold sg ab
  rw [e]
  by_cases h : n < 2 * (b * k % n)
  · rw [if_pos h, if_pos h]
    have e2 : a * (n - b * k % n) % n = n - a * (b * k % n) % n := by
      have : (a * (n - b * k % n) + a * (b * k % n)) % n = 0 := by
        rw [← Nat.mul_add, Nat.sub_add_cancel (Nat.le_of_lt hl)]; exact Nat.mul_mod_left _ _
      rw [Nat.add_mod] at this
      have hl3 := Nat.mod_lt (a * (n - b * k % n)) (show 0 < n by omega)
      have hd := Nat.dvd_of_mod_eq_zero this
      obtain ⟨c, hc⟩ := hd
      have : c < 2 := by
        rcases Nat.lt_or_ge c 2 with h | h
        · exact h
        · have := Nat.mul_le_mul_left n h; omega
      have : c = 0 ∨ c = 1 := by omega
      rcases this with rfl | rfl <;> omega
    rw [e2]
    split <;> split <;> omega
  · rw [if_neg h, if_neg h]
    simp
theorem mu_mul {n a b : Nat} (ho : n % 2 = 1) (ha : Nat.Coprime a n) (hb : Nat.Coprime b n) : mu n (a * b) % 2 = (mu n a + mu n b) % 2 := by
  have h1 : mu n (a * b) % 2 = sumTo (fun k => sg n b k + sg n a (ab n b k)) (n / 2) % 2 := sumTo_mod fun k h1 h2 => sg_mul ho ha hb h1 h2
  rw [h1, sumTo_add, sumTo_ab (sg n a) ho hb]
  unfold mu
  rw [Nat.add_comm]
theorem mu_mod {n a : Nat} : mu n (a % n) = mu n a := by
  unfold mu
  refine sumTo_congr fun k _ _ => ?_
  unfold sg
  rw [Nat.mod_mul_mod]
theorem mu_one {n : Nat} : mu n 1 = 0 := by
  have : mu n 1 = sumTo (fun _ => 0) (n / 2) := by
    unfold mu
    refine sumTo_congr fun k h1 h2 => ?_
    unfold sg
    rw [Nat.one_mul, Nat.mod_eq_of_lt (by omega), if_neg (by omega)]
  rw [this, sumTo_const, Nat.zero_mul]
theorem count_gt (q : Nat) : ∀ h, q ≤ h → sumTo (fun k => if q < k then 1 else 0) h = h - q
  | 0, _ => by simp only [sumTo]; omega
  | h + 1, hq => by
    rw [sumTo]
    by_cases e : q = h + 1
    · subst e
      rw [if_neg (by omega), sumTo_congr (g := fun _ => 0) fun k _ h2 => if_neg (by omega), sumTo_const]; omega
    · rw [count_gt q h (by omega), if_pos (by omega)]; omega
theorem mu_two {n : Nat} (ho : n % 2 = 1) : mu n 2 % 2 = if n % 8 = 3 ∨ n % 8 = 5 then 1 else 0 := by
  have : mu n 2 = sumTo (fun k => if n / 4 < k then 1 else 0) (n / 2) := by
    unfold mu
    refine sumTo_congr fun k h1 h2 => ?_
    unfold sg
    rw [Nat.mod_eq_of_lt (by omega)]
    split <;> split <;> omega
  rw [this, count_gt _ _ (by omega)]
  split <;> omega
theorem sum_div {n a : Nat} (ho : n % 2 = 1) (hc : Nat.Coprime a n) (hao : a % 2 = 1) : mu n a % 2 = sumTo (fun k => a * k / n) (n / 2) % 2 := by
  have h1 : sumTo (fun k => k) (n / 2) % 2 = sumTo (fun k => a * k / n + (ab n a k + sg n a k)) (n / 2) % 2 := by
    refine sumTo_mod fun k h1 h2 => ?_
    have hd := Nat.div_add_mod (a * k) n
    have hl := Nat.mod_lt (a * k) (show 0 < n by omega)
    have e1 : (a * k) % 2 = k % 2 := by rw [Nat.mul_mod, hao, Nat.one_mul, Nat.mod_mod]
    have e2 : (n * (a * k / n)) % 2 = (a * k / n) % 2 := by rw [Nat.mul_mod, ho, Nat.one_mul, Nat.mod_mod]
    unfold ab sg
    split <;> omega
  have h2 := sumTo_ab (fun k => k) ho hc
  rw [sumTo_add, sumTo_add, h2] at h1
  unfold mu
  omega
theorem lattice {m n : Nat} (hm : m % 2 = 1) (hn : n % 2 = 1) (hc : Nat.Coprime m n) :
    sumTo (fun k => m * k / n) (n / 2) + sumTo (fun j => n * j / m) (m / 2) = (m / 2) * (n / 2) := by
  have h1 : sumTo (fun k => m * k / n) (n / 2) = sumTo (fun k => sumTo (fun j => if n * j ≤ m * k then 1 else 0) (m / 2)) (n / 2) := by
    refine sumTo_congr fun k k1 k2 => ?_
    have hle : m * k / n ≤ m / 2 := by
      rw [Nat.div_le_iff_le_mul (by omega)]
      have h3 : m * k ≤ m * (n / 2) := Nat.mul_le_mul_left m k2
      have h4 : 2 * (m * (n / 2)) ≤ m * n := by
        rw [← Nat.mul_assoc, Nat.mul_comm 2 m, Nat.mul_assoc]; exact Nat.mul_le_mul_left m (by omega)
      have h5 : m * n = 2 * (m / 2 * n) + n := by
        have : m = 2 * (m / 2) + 1 := by omega
        calc m * n = (2 * (m / 2) + 1) * n := by rw [← this]
          _ = 2 * (m / 2 * n) + n := by rw [Nat.add_mul, Nat.one_mul, Nat.mul_assoc]
      omega
    rw [← sumTo_le (m * k / n) (m / 2) hle]
    refine sumTo_congr fun j j1 j2 => ?_
    have : j ≤ m * k / n ↔ n * j ≤ m * k := by rw [Nat.le_div_iff_mul_le (by omega), Nat.mul_comm]
    simp only [this]
  have h2 : sumTo (fun j => n * j / m) (m / 2) = sumTo (fun j => sumTo (fun k => if m * k ≤ n * j then 1 else 0) (n / 2)) (m / 2) := by
    refine sumTo_congr fun j k1 k2 => ?_
    have hle : n * j / m ≤ n / 2 := by
      rw [Nat.div_le_iff_le_mul (by omega)]
      have h3 : n * j ≤ n * (m / 2) := Nat.mul_le_mul_left n k2
      have h4 : 2 * (n * (m / 2)) ≤ n * m := by
        rw [← Nat.mul_assoc, Nat.mul_comm 2 n, Nat.mul_assoc]; exact Nat.mul_le_mul_left n (by omega)
      have h5 : n * m = 2 * (n / 2 * m) + m := by
        have : n = 2 * (n / 2) + 1 := by omega
        calc n * m = (2 * (n / 2) + 1) * m := by rw [← this]
          _ = 2 * (n / 2 * m) + m := by rw [Nat.add_mul, Nat.one_mul, Nat.mul_assoc]
      omega
    rw [← sumTo_le (n * j / m) (n / 2) hle]
    refine sumTo_congr fun k j1 j2 => ?_
    have : k ≤ n * j / m ↔ m * k ≤ n * j := by rw [Nat.le_div_iff_mul_le (by omega), Nat.mul_comm]
    simp only [this]
  rw [h1, h2, sumTo_swap, ← sumTo_add, sumTo_congr (g := fun _ => n / 2), sumTo_const, Nat.mul_comm]
  intro j j1 j2
  rw [← sumTo_add, sumTo_congr (g := fun _ => 1), sumTo_const, Nat.one_mul]
  intro k k1 k2
  have hne : n * j ≠ m * k := by
    intro e
    have hd : n ∣ k := (Nat.Coprime.symm hc).dvd_of_dvd_mul_left (e ▸ Nat.dvd_mul_right n j)
    have := Nat.le_of_dvd (by omega) hd
    omega
  split <;> split <;> omega
theorem reciprocity {m n : Nat} (hm : m % 2 = 1) (hn : n % 2 = 1) (hc : Nat.Coprime m n) :
    (mu n m + mu m n) % 2 = if m % 4 = 3 ∧ n % 4 = 3 then 1 else 0 := by
  have h1 := sum_div hn hc hm
  have h2 := sum_div hm (Nat.Coprime.symm hc) hn
  have h3 := lattice hm hn hc
  have h4 : (m / 2) * (n / 2) % 2 = ((m / 2) % 2) * ((n / 2) % 2) % 2 := Nat.mul_mod _ _ _
  have h5 : (mu n m + mu m n) % 2 = (m / 2) * (n / 2) % 2 := by omega
  rw [h5, h4]
  have a1 : (m / 2) % 2 = 0 ∨ (m / 2) % 2 = 1 := by omega
  have a2 : (n / 2) % 2 = 0 ∨ (n / 2) % 2 = 1 := by omega
  rcases a1 with a1 | a1 <;> rcases a2 with a2 | a2 <;> rw [a1, a2] <;> split <;> omega
def prodTo (f : Nat → Nat) : Nat → Nat
  | 0 => 1
  | h + 1 => prodTo f h * f (h + 1)
theorem prodTo_list (f : Nat → Nat) : ∀ h, prodTo f h = ((List.range' 1 h).map f).prod
  | 0 => rfl
  | h + 1 => by rw [prodTo, prodTo_list f h, List.range'_1_concat, List.map_append, List.prod_append]; simp [Nat.add_comm]
theorem prod_perm {l l' : List Nat} (h : l.Perm l') : l.prod = l'.prod := by
  induction h with
  | nil => rfl
  | cons x _ ih => simp [ih]
  | swap x y l => simp only [List.prod_cons]; rw [← Nat.mul_assoc, ← Nat.mul_assoc, Nat.mul_comm x y]
  | trans _ _ h1 h2 => exact h1.trans h2
theorem prodTo_perm (f p : Nat → Nat) (h : Nat) (hr : ∀ k, 1 ≤ k → k ≤ h → 1 ≤ p k ∧ p k ≤ h) (hi : ∀ k k', 1 ≤ k → k ≤ h → 1 ≤ k' → k' ≤ h → p k = p k' → k = k') :
    prodTo (fun k => f (p k)) h = prodTo f h := by
  rw [prodTo_list, prodTo_list]
  have : (List.range' 1 h).map (fun k => f (p k)) = ((List.range' 1 h).map p).map f := by simp
  rw [this]
  refine prod_perm (List.Perm.map f ?_)
  refine (perm_rng h _ ?_ ?_).2 (by simp)
  · refine List.Pairwise.map _ (R := fun a b => (1 ≤ a ∧ a ≤ h) ∧ (1 ≤ b ∧ b ≤ h) ∧ a ≠ b) ?_ ?_
    · rintro a b ⟨h1, h2, h3⟩ e
      exact h3 (hi a b h1.1 h1.2 h2.1 h2.2 e)
    · refine List.Pairwise.imp_of_mem (R := fun a b => a ≠ b) ?_ List.nodup_range'
      intro a b ha hb hne
      simp [List.mem_range'_1] at ha hb
      exact ⟨by omega, by omega, hne⟩
  · intro x hx
    obtain ⟨k, hk, rfl⟩ := List.mem_map.1 hx
    simp [List.mem_range'_1] at hk
    exact hr k (by omega) (by omega)
theorem prodTo_scale (a : Nat) : ∀ h, prodTo (fun k => a * k) h = a ^ h * prodTo (fun k => k) h
  | 0 => rfl
  | h + 1 => by
    rw [prodTo, prodTo, prodTo_scale a h, Nat.pow_succ]
    rw [Nat.mul_assoc, Nat.mul_assoc, Nat.mul_left_comm (prodTo _ h) a (h + 1)]
theorem prod_signs {n a : Nat} (ho : n % 2 = 1) : ∀ h, h ≤ n / 2 →
    if sumTo (sg n a) h % 2 = 0 then prodTo (fun k => a * k) h % n = prodTo (ab n a) h % n else (prodTo (fun k => a * k) h + prodTo (ab n a) h) % n = 0
  | 0, _ => by simp [sumTo, prodTo]
  | h + 1, hh => by
    have ih := prod_signs (n := n) (a := a) ho h (by omega)
    have hl := Nat.mod_lt (a * (h + 1)) (show 0 < n by omega)
    show if (sumTo (sg n a) h + sg n a (h + 1)) % 2 = 0 then prodTo (fun k => a * k) h * (a * (h + 1)) % n = prodTo (ab n a) h * ab n a (h + 1) % n else (prodTo (fun k => a * k) h * (a * (h + 1)) + prodTo (ab n a) h * ab n a (h + 1)) % n = 0
    generalize prodTo (fun k => a * k) h = x at ih ⊢
    generalize prodTo (ab n a) h = y at ih ⊢
    have hz : (sg n a (h + 1) = 0 ∧ (a * (h + 1)) % n = ab n a (h + 1) % n) ∨ (sg n a (h + 1) = 1 ∧ (a * (h + 1) + ab n a (h + 1)) % n = 0) := by
      unfold sg ab
      by_cases e : n < 2 * (a * (h + 1) % n)
      · rw [if_pos e, if_pos e]
        refine .inr ⟨rfl, ?_⟩
        rw [Nat.add_mod, Nat.mod_eq_of_lt (a := n - _) (by omega), Nat.add_sub_cancel' (Nat.le_of_lt hl), Nat.mod_self]
      · rw [if_neg e, if_neg e, Nat.mod_mod]
        exact .inl ⟨rfl, rfl⟩
    generalize a * (h + 1) = u at hz ⊢
    generalize ab n a (h + 1) = v at hz ⊢
    generalize sumTo (sg n a) h = t at ih ⊢
    have key1 : ∀ {x y u v : Nat}, x % n = y % n → u % n = v % n → (x * u) % n = (y * v) % n := fun h1 h2 => by rw [Nat.mul_mod, h1, h2, ← Nat.mul_mod]
    have key2 : ∀ {x y u v : Nat}, x % n = y % n → (u + v) % n = 0 → (x * u + y * v) % n = 0 := fun {x y u v} h1 h2 => by
      rw [Nat.add_mod, Nat.mul_mod x, h1, ← Nat.mul_mod, ← Nat.add_mod, ← Nat.mul_add, Nat.mul_mod, h2, Nat.mul_zero, Nat.zero_mod]
    have key3 : ∀ {x y u v : Nat}, (x + y) % n = 0 → u % n = v % n → (x * u + y * v) % n = 0 := fun {x y u v} h1 h2 => by
      rw [Nat.mul_comm x, Nat.mul_comm y]; exact key2 h2 h1
    have key4 : ∀ {x y u v : Nat}, (x + y) % n = 0 → (u + v) % n = 0 → (x * u) % n = (y * v) % n := fun {x y u v} h1 h2 => by
      have e1 : (x * u + x * v) % n = 0 := by rw [← Nat.mul_add, Nat.mul_mod, h2, Nat.mul_zero, Nat.zero_mod]
      have e2 : (x * v + y * v) % n = 0 := by rw [← Nat.add_mul, Nat.mul_mod, h1, Nat.zero_mul, Nat.zero_mod]
      rw [Nat.add_mod] at e1 e2
      have l1 := Nat.mod_lt (x * u) (show 0 < n by omega)
      have l2 := Nat.mod_lt (y * v) (show 0 < n by omega)
      have l3 := Nat.mod_lt (x * v) (show 0 < n by omega)
      have small : ∀ {p q : Nat}, p < n → q < n → (p + q) % n = 0 → p + q = 0 ∨ p + q = n := fun {p q} hp hq e => by
        obtain ⟨c, hc⟩ := Nat.dvd_of_mod_eq_zero e
        have : c < 2 := by
          rcases Nat.lt_or_ge c 2 with h | h
          · exact h
          · have := Nat.mul_le_mul_left n h; omega
        have : c = 0 ∨ c = 1 := by omega
        rcases this with rfl | rfl <;> omega
      have s1 := small l1 l3 e1
      have s2 := small l3 l2 e2
      omega
    rcases hz with ⟨es, hz⟩ | ⟨es, hz⟩
    · rw [es]
      by_cases e : t % 2 = 0
      · rw [if_pos e] at ih; rw [if_pos (by omega)]; exact key1 ih hz
      · rw [if_neg e] at ih; rw [if_neg (by omega)]; exact key3 ih hz
    · rw [es]
      by_cases e : t % 2 = 0
      · rw [if_pos e] at ih; rw [if_neg (by omega)]; exact key2 ih hz
      · rw [if_neg e] at ih; rw [if_pos (by omega)]; exact key4 ih hz
theorem fact_coprime {n : Nat} (hp : ∀ k, 1 ≤ k → k < n → Nat.Coprime k n) : ∀ h, h < n → Nat.Coprime (prodTo (fun k => k) h) n
  | 0, _ => by simp [prodTo]
  | h + 1, hh => Nat.Coprime.mul_left (fact_coprime hp h (by omega)) (hp (h + 1) (by omega) hh)
theorem gauss {n a : Nat} (ho : n % 2 = 1) (hn : 3 ≤ n) (hp : ∀ k, 1 ≤ k → k < n → Nat.Coprime k n) (hc : Nat.Coprime a n) :
    a ^ (n / 2) % n = if mu n a % 2 = 0 then 1 else n - 1 := by
  have h1 := prod_signs (a := a) ho (n / 2) (Nat.le_refl _)
  have h2 : prodTo (ab n a) (n / 2) = prodTo (fun k => k) (n / 2) :=
    prodTo_perm (fun k => k) (ab n a) _ (fun _ h1 h2 => ab_range hc h1 h2) fun _ _ h1 h2 h3 h4 e => ab_inj ho hc h1 h2 h3 h4 e
  rw [h2, prodTo_scale] at h1
  have hf := fact_coprime hp (n / 2) (by omega)
  generalize prodTo (fun k => k) (n / 2) = F at h1 hf
  generalize a ^ (n / 2) = X at h1
  have hl := Nat.mod_lt X (show 0 < n by omega)
  unfold mu
  by_cases e : sumTo (sg n a) (n / 2) % 2 = 0
  · rw [if_pos e] at h1 ⊢
    by_cases hX : 1 ≤ X
    · have hd : n ∣ X * F - F := Nat.dvd_of_mod_eq_zero (Nat.sub_mod_eq_zero_of_mod_eq h1)
      have : X * F - F = F * (X - 1) := by rw [Nat.mul_sub, Nat.mul_one, Nat.mul_comm]
      rw [this] at hd
      obtain ⟨c, hc⟩ := (Nat.Coprime.symm hf).dvd_of_dvd_mul_left hd
      have : X = 1 + n * c := by omega
      rw [this, Nat.add_mul_mod_self_left, Nat.mod_eq_of_lt (by omega)]
    · exfalso
      have : X = 0 := by omega
      subst this
      rw [Nat.zero_mul, Nat.zero_mod] at h1
      have hd : n ∣ F := Nat.dvd_of_mod_eq_zero h1.symm
      have := Nat.Coprime.eq_one_of_dvd (Nat.Coprime.symm hf) hd
      omega
  · rw [if_neg e] at h1 ⊢
    have hd : n ∣ X * F + F := Nat.dvd_of_mod_eq_zero h1
    have : X * F + F = F * (X + 1) := by rw [Nat.mul_add, Nat.mul_one, Nat.mul_comm]
    rw [this] at hd
    obtain ⟨c, hc⟩ := (Nat.Coprime.symm hf).dvd_of_dvd_mul_left hd
    cases c with
    | zero => omega
    | succ c =>
      have : X = (n - 1) + n * c := by rw [Nat.mul_succ] at hc; omega
      rw [this, Nat.add_mul_mod_self_left, Nat.mod_eq_of_lt (by omega)]
def chk (p : Nat) : Nat → Nat → Bool
  | 0, a => p % a != 0
  | k + 1, a => chk p k a && chk p k (a + 2 ^ k)
theorem chk_out {p : Nat} : ∀ (k a d : Nat), chk p k a = true → a ≤ d → d < a + 2 ^ k → p % d ≠ 0
  | 0, a, d, h, h1, h2 => by
    have : d = a := by simp at h2; omega
    subst this
    simpa [chk] using h
  | k + 1, a, d, h, h1, h2 => by
    simp only [chk, Bool.and_eq_true] at h
    rw [Nat.pow_succ] at h2
    by_cases e : d < a + 2 ^ k
    · exact chk_out k a d h.1 h1 e
    · exact chk_out k (a + 2 ^ k) d h.2 (by omega) (by omega)
theorem chkP : chk 2147483579 16 2 = true := by decide +kernel
theorem primeP : ∀ k, 1 ≤ k → k < 2147483579 → Nat.Coprime k 2147483579 := by
  intro k h1 h2
  have hd := Nat.gcd_dvd_right k 2147483579
  have hk := Nat.le_of_dvd (by omega) (Nat.gcd_dvd_left k 2147483579)
  have h0 : 0 < Nat.gcd k 2147483579 := Nat.gcd_pos_of_pos_left _ h1
  unfold Nat.Coprime
  generalize Nat.gcd k 2147483579 = d at hd hk h0 ⊢
  obtain ⟨e, he⟩ := hd
  by_cases h : d = 1
  · exact h
  exfalso
  have hdv : 2147483579 % d = 0 := by rw [he]; exact Nat.mul_mod_right _ _
  have hev : 2147483579 % e = 0 := by rw [he]; exact Nat.mul_mod_left _ _
  have out := fun d h1 h2 => chk_out 16 2 d chkP h1 h2
  by_cases hs : d < 65538
  · exact out d (by omega) (by omega) hdv
  · by_cases hs2 : e < 65538
    · refine out e ?_ (by omega) hev
      rcases Nat.lt_or_ge e 2 with h | h
      · have : e = 0 ∨ e = 1 := by omega
        rcases this with rfl | rfl <;> omega
      · exact h
    · have := Nat.mul_le_mul (show 65538 ≤ d by omega) (show 65538 ≤ e by omega)
      omega
def J (x n : Nat) : Bool := mu n x % 2 == 0
theorem J_one {n : Nat} : J 1 n = true := by unfold J; rw [mu_one]; rfl
theorem J_half {y n : Nat} (ho : n % 2 = 1) (hc : Nat.Coprime (2 * y) n) : J (2 * y) n = if n % 8 = 3 ∨ n % 8 = 5 then !J y n else J y n := by
  have h2 : Nat.Coprime 2 n := Nat.Coprime.coprime_mul_right hc
  have hy : Nat.Coprime y n := Nat.Coprime.coprime_mul_left hc
  have h := mu_mul ho h2 hy
  have h3 := mu_two ho
  unfold J
  by_cases e : n % 8 = 3 ∨ n % 8 = 5
  · rw [if_pos e] at h3 ⊢
    rw [Bool.eq_iff_iff]; simp; omega
  · rw [if_neg e] at h3 ⊢
    rw [Bool.eq_iff_iff]; simp; omega
theorem J_swap {x n : Nat} (hx : x % 2 = 1) (ho : n % 2 = 1) (hc : Nat.Coprime x n) : J x n = if x % 4 = 3 ∧ n % 4 = 3 then !J (n % x) x else J (n % x) x := by
  have h := reciprocity hx ho hc
  unfold J
  rw [mu_mod]
  by_cases e : x % 4 = 3 ∧ n % 4 = 3
  · rw [if_pos e] at h ⊢
    rw [Bool.eq_iff_iff]; simp; omega
  · rw [if_neg e] at h ⊢
    rw [Bool.eq_iff_iff]; simp; omega
def pm (a n : Nat) : Nat := a ^ n % 2147483579
theorem pm_lt (a n : Nat) : pm a n < 2147483579 := Nat.mod_lt _ (by omega)
theorem pm_zero (a : Nat) : pm a 0 = 1 := rfl
theorem pm_succ (a n : Nat) : pm a (n + 1) = pm a n * a % 2147483579 := by unfold pm; rw [Nat.pow_succ, Nat.mod_mul_mod]
theorem pm_add (a m n : Nat) : pm a (m + n) = pm a m * pm a n % 2147483579 := by unfold pm; rw [Nat.pow_add, Nat.mul_mod]
theorem pm_mul (a m n : Nat) : pm a (m * n) = pm (pm a m) n := by unfold pm; rw [Nat.pow_mul, Nat.pow_mod]
theorem mul_pm (a b n : Nat) : pm (a * b) n = pm a n * pm b n % 2147483579 := by unfold pm; rw [Nat.mul_pow, Nat.mul_mod]
theorem pm_mod (a n : Nat) : pm (a % 2147483579) n = pm a n := by unfold pm; rw [← Nat.pow_mod]
theorem pm_half {a : Nat} (h1 : 1 ≤ a) (h2 : a < 2147483579) : pm a 1073741789 = if J a 2147483579 then 1 else 2147483578 := by
  have := gauss (n := 2147483579) (a := a) (by omega) (by omega) primeP (primeP a h1 h2)
  unfold pm
  rw [show (1073741789 : Nat) = 2147483579 / 2 from rfl, this]
  unfold J
  by_cases e : mu 2147483579 a % 2 = 0
  · rw [if_pos e, if_pos (by simp [e])]
  · rw [if_neg e, if_neg (by simp [e])]
def fp : Nat → Nat → Nat → Nat → Nat
  | 0, _, _, c => c
  | k + 1, a, n, c => if n = 0 then c else fp k (a * a % 2147483579) (n / 2) (if n % 2 = 1 then c * a % 2147483579 else c)
theorem fp_eq : ∀ (k a n c : Nat), n < 2 ^ k → c < 2147483579 → fp k a n c = c * pm a n % 2147483579
  | 0, a, n, c, h, hc => by
    have : n = 0 := by simp at h; omega
    subst this
    rw [fp, pm_zero, Nat.mul_one, Nat.mod_eq_of_lt hc]
  | k + 1, a, n, c, h, hc => by
    rw [fp]
    by_cases e : n = 0
    · subst e; rw [if_pos rfl, pm_zero, Nat.mul_one, Nat.mod_eq_of_lt hc]
    · rw [if_neg e]
      have h1 : n / 2 < 2 ^ k := by rw [Nat.pow_succ] at h; omega
      have h2 : (if n % 2 = 1 then c * a % 2147483579 else c) < 2147483579 := by
        split
        · exact Nat.mod_lt _ (by omega)
        · exact hc
      rw [fp_eq k _ _ _ h1 h2]
      have h3 : pm (a * a % 2147483579) (n / 2) = pm a (2 * (n / 2)) := by
        rw [pm_mod, ← Nat.pow_two]; unfold pm; rw [Nat.pow_mul]
      rw [h3]
      by_cases e2 : n % 2 = 1
      · rw [if_pos e2]
        have : n = 2 * (n / 2) + 1 := by omega
        rw [show pm a n = pm a (2 * (n / 2) + 1) by rw [← this], pm_succ, Nat.mod_mul_mod, Nat.mul_mod_mod, Nat.mul_assoc, Nat.mul_comm a]
      · rw [if_neg e2]
        have : n = 2 * (n / 2) := by omega
        rw [← this]
end Go.Proofs.YtjbcfdgnafmbkaaDoor.Num
end
section
set_option linter.unusedVariables false
namespace Go.Proofs.YtjbcfdgnafmbkaaDoor
open Num
def validB (a : Int) : Bool := decide (1 ≤ a) && decide (a < 2147483579) && Num.J a.toNat 2147483579
def powI (a n : Int) : Int := (Num.pm a.toNat (n % 1073741789).toNat : Int)
def mulI (a b : Int) : Int := a * b % 2147483579
theorem validB_true {a : Int} (h : validB a = true) : 1 ≤ a ∧ a < 2147483579 ∧ Num.J a.toNat 2147483579 = true := by
  simp only [validB, Bool.and_eq_true, decide_eq_true_eq] at h
  exact ⟨h.1.1, h.1.2, h.2⟩
theorem pmQ {a : Nat} (h1 : 1 ≤ a) (h2 : a < 2147483579) : pm a 1073741789 = 1 ∨ pm a 1073741789 = 2147483578 := by
  rw [pm_half h1 h2]; split <;> simp
theorem validB_iff {a : Int} : validB a = true ↔ 1 ≤ a ∧ a < 2147483579 ∧ pm a.toNat 1073741789 = 1 := by
  constructor
  · intro h
    obtain ⟨h1, h2, h3⟩ := validB_true h
    refine ⟨h1, h2, ?_⟩
    rw [pm_half (by omega) (by omega), if_pos h3]
  · rintro ⟨h1, h2, h3⟩
    simp only [validB, Bool.and_eq_true, decide_eq_true_eq]
    refine ⟨⟨h1, h2⟩, ?_⟩
    rw [pm_half (by omega) (by omega)] at h3
    split at h3
    · assumption
    · omega
theorem validB_nat {a : Nat} : validB a = true ↔ 1 ≤ a ∧ a < 2147483579 ∧ pm a 1073741789 = 1 := by
  rw [validB_iff, Int.toNat_natCast]; omega
theorem mul_mod_pos {a b : Nat} (h1 : 1 ≤ a) (h2 : a < 2147483579) (h3 : 1 ≤ b) (h4 : b < 2147483579) : 1 ≤ a * b % 2147483579 := by
  have := mod_pos (primeP a h1 h2) h3 h4; omega
theorem mulI_nat (a b : Nat) : mulI a b = ((a * b % 2147483579 : Nat) : Int) := by
  unfold mulI; rw [Int.natCast_emod, Int.natCast_mul]; rfl
theorem valid_mul {a b : Int} (ha : validB a = true) (hb : validB b = true) : validB (mulI a b) = true := by
  obtain ⟨a, rfl⟩ := Int.eq_ofNat_of_zero_le (show 0 ≤ a by have := (validB_true ha).1; omega)
  obtain ⟨b, rfl⟩ := Int.eq_ofNat_of_zero_le (show 0 ≤ b by have := (validB_true hb).1; omega)
  rw [mulI_nat]
  rw [validB_nat] at *
  refine ⟨mul_mod_pos ha.1 ha.2.1 hb.1 hb.2.1, Nat.mod_lt _ (by omega), ?_⟩
  rw [pm_mod, mul_pm, ha.2.2, hb.2.2]
theorem one_pm (n : Nat) : pm 1 n = 1 := by unfold pm; rw [Nat.one_pow]
theorem zero_pm (n : Nat) (h : 0 < n) : pm 0 n = 0 := by unfold pm; rw [Nat.zero_pow h]
theorem pm_period {a : Nat} (h : pm a 1073741789 = 1) (n : Nat) : pm a n = pm a (n % 1073741789) := by
  have e : n = 1073741789 * (n / 1073741789) + n % 1073741789 := by omega
  have : pm a n = pm a (1073741789 * (n / 1073741789) + n % 1073741789) := by rw [← e]
  rw [this, pm_add, pm_mul, h]
  rw [one_pm, Nat.one_mul, Nat.mod_eq_of_lt (pm_lt _ _)]
theorem pm_pos {a : Nat} (h : pm a 1073741789 = 1) (n : Nat) : 1 ≤ pm a n := by
  rcases Nat.eq_zero_or_pos (pm a n) with e | e
  · exfalso
    have : pm a (n * 1073741789) = 0 := by rw [pm_mul, e]; exact zero_pm _ (by omega)
    rw [pm_period h] at this
    have e2 : n * 1073741789 % 1073741789 = 0 := Nat.mul_mod_left _ _
    rw [e2, pm_zero] at this
    omega
  · exact e
theorem powI_nat (a : Nat) (n : Int) : powI a n = ((pm a (n % 1073741789).toNat : Nat) : Int) := by unfold powI; rw [Int.toNat_natCast]
theorem valid_pow {a : Int} (ha : validB a = true) (n : Int) : validB (powI a n) = true := by
  obtain ⟨a, rfl⟩ := Int.eq_ofNat_of_zero_le (show 0 ≤ a by have := (validB_true ha).1; omega)
  rw [powI_nat]
  rw [validB_nat] at *
  refine ⟨pm_pos ha.2.2 _, pm_lt _ _, ?_⟩
  rw [← pm_mul, Nat.mul_comm, pm_mul, ha.2.2]
  exact one_pm _
theorem powI_mod (a n : Int) : powI a (n % 1073741789) = powI a n := by unfold powI; rw [Int.emod_emod]
theorem powI_congr {a m n : Int} (h : m % 1073741789 = n % 1073741789) : powI a m = powI a n := by rw [← powI_mod a m, h, powI_mod]
theorem powI_add {a : Int} (ha : validB a = true) (m n : Int) : powI a (m + n) = mulI (powI a m) (powI a n) := by
  obtain ⟨a, rfl⟩ := Int.eq_ofNat_of_zero_le (show 0 ≤ a by have := (validB_true ha).1; omega)
  rw [powI_nat, powI_nat, powI_nat, mulI_nat, ← pm_add]
  have h := (validB_nat.1 ha).2.2
  rw [pm_period h ((m % 1073741789).toNat + (n % 1073741789).toNat)]
  congr 2
  omega
theorem powI_pow {a : Int} (ha : validB a = true) (m n : Int) : powI (powI a m) n = powI a (m * n) := by
  obtain ⟨a, rfl⟩ := Int.eq_ofNat_of_zero_le (show 0 ≤ a by have := (validB_true ha).1; omega)
  rw [powI_nat, powI_nat, powI_nat, ← pm_mul]
  have h := (validB_nat.1 ha).2.2
  rw [pm_period h ((m % 1073741789).toNat * (n % 1073741789).toNat)]
  congr 2
  have h1 : (((m % 1073741789).toNat * (n % 1073741789).toNat % 1073741789 : Nat) : Int) = m * n % 1073741789 := by
    rw [Int.natCast_emod, Int.natCast_mul, Int.toNat_of_nonneg (by omega), Int.toNat_of_nonneg (by omega)]
    exact (Int.mul_emod m n 1073741789).symm
  omega
theorem valid_sq {n : Int} (h1 : 1 ≤ n) (h2 : n < 2147483579) : validB (mulI n n) = true := by
  obtain ⟨a, rfl⟩ := Int.eq_ofNat_of_zero_le (show 0 ≤ n by omega)
  rw [mulI_nat, validB_nat]
  refine ⟨mul_mod_pos (by omega) (by omega) (by omega) (by omega), Nat.mod_lt _ (by omega), ?_⟩
  rw [pm_mod, mul_pm]
  rcases pmQ (a := a) (by omega) (by omega) with e | e <;> rw [e]
theorem valid_out {n : Int} (h : n < 1 ∨ 2147483579 ≤ n) : validB n = false := by
  rw [Bool.eq_false_iff]
  intro h2
  have := validB_true h2
  omega
theorem powI_fp {a n : Nat} (hn : n < 1073741789) : powI a n = ((fp 31 a n 1 : Nat) : Int) := by
  rw [powI_nat, fp_eq _ _ _ _ (by omega) (by omega), Nat.one_mul, Nat.mod_eq_of_lt (pm_lt _ _)]
  congr 2
  omega
def validF (a : Nat) : Bool := decide (1 ≤ a) && decide (a < 2147483579) && fp 31 a 1073741789 1 == 1
theorem validF_eq (a : Nat) : validB a = validF a := by
  rw [Bool.eq_iff_iff, validB_nat]
  simp only [validF, Bool.and_eq_true, decide_eq_true_eq, beq_iff_eq]
  rw [fp_eq _ _ _ _ (by omega) (by omega), Nat.one_mul, Nat.mod_eq_of_lt (pm_lt _ _)]
  omega
theorem valid_4 : validB 4 = true := (validF_eq 4).trans (by decide +kernel)
theorem pow_42 : powI 4 2 = 16 := (powI_fp (a := 4) (n := 2) (by omega)).trans (by decide +kernel)
end Go.Proofs.YtjbcfdgnafmbkaaDoor
end
