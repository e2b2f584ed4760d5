/- Lemmas, walks and printed functions for the claim. -/
import Derived.Laws.BitsAllLaws
section
namespace Go.Proofs.YtjbcfdgnafmbkaaDoor.Sha
def ror (x n : Nat) : Nat := (x / 2 ^ n) ||| (x * 2 ^ (32 - n) % 4294967296)
def add (x y : Nat) : Nat := (x + y) % 4294967296
def s0 (x : Nat) : Nat := ror x 7 ^^^ ror x 18 ^^^ x / 8
def s1 (x : Nat) : Nat := ror x 17 ^^^ ror x 19 ^^^ x / 1024
def S0 (a : Nat) : Nat := ror a 2 ^^^ ror a 13 ^^^ ror a 22
def S1 (e : Nat) : Nat := ror e 6 ^^^ ror e 11 ^^^ ror e 25
def ch (e f g : Nat) : Nat := g ^^^ (e &&& (f ^^^ g))
def mj (a b c : Nat) : Nat := (a &&& b) ||| (c &&& (a ||| b))
def word4 (l : List Nat) (o : Nat) : Nat := ((l.getD o 0 * 256 + l.getD (o + 1) 0) * 256 + l.getD (o + 2) 0) * 256 + l.getD (o + 3) 0
def words0 (l : List Nat) : Nat → List Nat
  | 0 => List.replicate 64 0
  | t + 1 => (words0 l t).set t (word4 l (4 * t))
def nextW (ws : List Nat) (t : Nat) : Nat := add (add (add (ws.getD (t - 16) 0) (s0 (ws.getD (t - 15) 0))) (ws.getD (t - 7) 0)) (s1 (ws.getD (t - 2) 0))
def words1 (l : List Nat) : Nat → List Nat
  | 0 => words0 l 16
  | j + 1 => (words1 l j).set (16 + j) (nextW (words1 l j) (16 + j))
structure St where
  a : Nat
  b : Nat
  c : Nat
  d : Nat
  e : Nat
  f : Nat
  g : Nat
  h : Nat
def St.ok (s : St) : Prop := s.a < 4294967296 ∧ s.b < 4294967296 ∧ s.c < 4294967296 ∧ s.d < 4294967296 ∧ s.e < 4294967296 ∧ s.f < 4294967296 ∧ s.g < 4294967296 ∧ s.h < 4294967296
def t1 (s : St) (k w : Nat) : Nat := add (add (add (add s.h (S1 s.e)) (ch s.e s.f s.g)) k) w
def t2 (s : St) : Nat := add (S0 s.a) (mj s.a s.b s.c)
def rnd (s : St) (k w : Nat) : St := ⟨add (t1 s k w) (t2 s), s.a, s.b, s.c, add s.d (t1 s k w), s.e, s.f, s.g⟩
def rnds (ks ws : List Nat) (s : St) : Nat → St
  | 0 => s
  | t + 1 => rnd (rnds ks ws s t) (ks.getD t 0) (ws.getD t 0)
def St.add (s v : St) : St := ⟨Sha.add s.a v.a, Sha.add s.b v.b, Sha.add s.c v.c, Sha.add s.d v.d, Sha.add s.e v.e, Sha.add s.f v.f, Sha.add s.g v.g, Sha.add s.h v.h⟩
def K : List Nat := [
  0x428a2f98, 0x71374491, 0xb5c0fbcf, 0xe9b5dba5, 0x3956c25b, 0x59f111f1, 0x923f82a4, 0xab1c5ed5,
  0xd807aa98, 0x12835b01, 0x243185be, 0x550c7dc3, 0x72be5d74, 0x80deb1fe, 0x9bdc06a7, 0xc19bf174,
  0xe49b69c1, 0xefbe4786, 0x0fc19dc6, 0x240ca1cc, 0x2de92c6f, 0x4a7484aa, 0x5cb0a9dc, 0x76f988da,
  0x983e5152, 0xa831c66d, 0xb00327c8, 0xbf597fc7, 0xc6e00bf3, 0xd5a79147, 0x06ca6351, 0x14292967,
  0x27b70a85, 0x2e1b2138, 0x4d2c6dfc, 0x53380d13, 0x650a7354, 0x766a0abb, 0x81c2c92e, 0x92722c85,
  0xa2bfe8a1, 0xa81a664b, 0xc24b8b70, 0xc76c51a3, 0xd192e819, 0xd6990624, 0xf40e3585, 0x106aa070,
  0x19a4c116, 0x1e376c08, 0x2748774c, 0x34b0bcb5, 0x391c0cb3, 0x4ed8aa4a, 0x5b9cca4f, 0x682e6ff3,
  0x748f82ee, 0x78a5636f, 0x84c87814, 0x8cc70208, 0x90befffa, 0xa4506ceb, 0xbef9a3f7, 0xc67178f2]
def H0 : St := ⟨0x6a09e667, 0xbb67ae85, 0x3c6ef372, 0xa54ff53a, 0x510e527f, 0x9b05688c, 0x1f83d9ab, 0x5be0cd19⟩
def absorb (s : St) (l : List Nat) : St := s.add (rnds K (words1 l 48) s 64)
def blocks : Nat → St → List Nat → St
  | 0, s, _ => s
  | n + 1, s, l => blocks n (absorb s (l.take 64)) (l.drop 64)
def be8 (n : Nat) : List Nat := [n / 2 ^ 56 % 256, n / 2 ^ 48 % 256, n / 2 ^ 40 % 256, n / 2 ^ 32 % 256, n / 2 ^ 24 % 256, n / 2 ^ 16 % 256, n / 2 ^ 8 % 256, n % 256]
def be4 (n : Nat) : List Nat := [n / 2 ^ 24 % 256, n / 2 ^ 16 % 256, n / 2 ^ 8 % 256, n % 256]
def tail (rest : List Nat) (len : Nat) : List Nat :=
  rest ++ [128] ++ List.replicate ((if rest.length ≤ 55 then 55 else 119) - rest.length) 0 ++ be8 (len * 8)
def bytes (s : St) : List Nat := be4 s.a ++ be4 s.b ++ be4 s.c ++ be4 s.d ++ be4 s.e ++ be4 s.f ++ be4 s.g ++ be4 s.h
def sum (l : List Nat) : List Nat :=
  bytes (blocks (if l.length % 64 ≤ 55 then 1 else 2) (blocks (l.length / 64) H0 l) (tail (l.drop (64 * (l.length / 64))) l.length))
def tagged (tag l : List Nat) : List Nat := sum (sum tag ++ l)
theorem ror_lt {x n : Nat} (hx : x < 4294967296) : ror x n < 4294967296 :=
  Nat.or_lt_two_pow (n := 32) (Nat.lt_of_le_of_lt (Nat.div_le_self _ _) hx) (Nat.mod_lt _ (by decide))
theorem xor_lt {x y : Nat} (hx : x < 4294967296) (hy : y < 4294967296) : x ^^^ y < 4294967296 := Nat.xor_lt_two_pow (n := 32) hx hy
theorem and_lt {x y : Nat} (hx : x < 4294967296) : x &&& y < 4294967296 := Nat.lt_of_le_of_lt Nat.and_le_left hx
theorem or_lt {x y : Nat} (hx : x < 4294967296) (hy : y < 4294967296) : x ||| y < 4294967296 := Nat.or_lt_two_pow (n := 32) hx hy
theorem add_lt (x y : Nat) : add x y < 4294967296 := Nat.mod_lt _ (by decide)
theorem St.add_ok (s v : St) : (s.add v).ok := ⟨add_lt _ _, add_lt _ _, add_lt _ _, add_lt _ _, add_lt _ _, add_lt _ _, add_lt _ _, add_lt _ _⟩
theorem rnd_ok {s : St} (h : s.ok) (k w : Nat) : (rnd s k w).ok := ⟨add_lt _ _, h.1, h.2.1, h.2.2.1, add_lt _ _, h.2.2.2.2.1, h.2.2.2.2.2.1, h.2.2.2.2.2.2.1⟩
theorem rnds_ok {s : St} (h : s.ok) (ks ws : List Nat) : ∀ t, (rnds ks ws s t).ok
  | 0 => h
  | t + 1 => rnd_ok (rnds_ok h ks ws t) _ _
theorem H0_ok : H0.ok := by unfold St.ok; decide
theorem absorb_ok (s : St) (l : List Nat) : (absorb s l).ok := St.add_ok _ _
theorem bytes_length (s : St) : (bytes s).length = 32 := rfl
theorem be4_lt (n : Nat) : ∀ x ∈ be4 n, x < 256 := by
  intro x hx
  simp only [be4, List.mem_cons, List.not_mem_nil, or_false] at hx
  rcases hx with rfl | rfl | rfl | rfl <;> exact Nat.mod_lt _ (by decide)
theorem bytes_lt (s : St) : ∀ x ∈ bytes s, x < 256 := by
  intro x hx
  simp only [bytes, List.mem_append] at hx
  rcases hx with ((((((h | h) | h) | h) | h) | h) | h) | h <;> exact be4_lt _ _ h
theorem words0_length (l : List Nat) : ∀ t, (words0 l t).length = 64
  | 0 => List.length_replicate
  | t + 1 => by rw [words0, List.length_set, words0_length l t]
theorem words1_length (l : List Nat) : ∀ t, (words1 l t).length = 64
  | 0 => words0_length l 16
  | t + 1 => by rw [words1, List.length_set, words1_length l t]
theorem word4_lt {l : List Nat} (h : ∀ x ∈ l, x < 256) (o : Nat) : word4 l o < 4294967296 := by
  have g : ∀ i, l.getD i 0 < 256 := fun i => by
    rw [List.getD_eq_getElem?_getD]
    by_cases hi : i < l.length
    · rw [List.getElem?_eq_getElem hi]; exact h _ (List.getElem_mem hi)
    · rw [List.getElem?_eq_none (by omega)]; decide
  unfold word4
  have := g o; have := g (o + 1); have := g (o + 2); have := g (o + 3)
  omega
theorem getD_set (l : List Nat) (i j x : Nat) : (l.set i x).getD j 0 = if i = j ∧ j < l.length then x else l.getD j 0 := by
  simp only [List.getD_eq_getElem?_getD, List.getElem?_set]
  by_cases h : i = j
  · subst h
    by_cases h2 : i < l.length
    · simp [h2]
    · simp [h2]
  · simp [h]
theorem words0_lt {l : List Nat} (h : ∀ x ∈ l, x < 256) : ∀ t j, (words0 l t).getD j 0 < 4294967296
  | 0, j => by
    rw [words0, List.getD_eq_getElem?_getD, List.getElem?_replicate]; split <;> simp
  | t + 1, j => by
    rw [words0, getD_set]; split
    · exact word4_lt h _
    · exact words0_lt h t j
theorem words1_lt {l : List Nat} (h : ∀ x ∈ l, x < 256) : ∀ t j, (words1 l t).getD j 0 < 4294967296
  | 0, j => words0_lt h 16 j
  | t + 1, j => by
    rw [words1, getD_set]; split
    · exact add_lt _ _
    · exact words1_lt h t j
end Go.Proofs.YtjbcfdgnafmbkaaDoor.Sha
end
