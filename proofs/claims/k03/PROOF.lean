import PyProof.Rows.All
import Wide.All
import OpenK.AllK
import Wide.FinOn
import HandS.ForMost
import HandS.ForExc
import HandS.IsInst
import HandS.Evl
import HandS.WideBits
import HandS.SetFor
import HandS.EndBits
import HandS.TupLe
import HandS.SortInts
import HandS.Conv
import KE.IntBitsLaws
import PySem.Challenge.RW_pairsapart_k03_whole_threes
/-! the mathematics of the row: first places, both places, the number at a place -/
set_option maxHeartbeats 4000000
set_option Elab.async false
set_option linter.all false
namespace PA
def f4 (p n : Int) : Int :=
  if n % 2 = 0 then 6 * p - n / 2 else if n = 4 * p - 1 then 2 * p + 1 else if n = 1 then p else if n = 2 * p + 1 then p - 1 else if n = 2 * p - 1 then 2 * p
  else if 2 * p + 1 < n then (4 * p - 1 - n) / 2 else p + 1 + (2 * p - 1 - n) / 2
def f1 (p n : Int) : Int :=
  if n % 2 = 0 then 6 * p + 2 - n / 2 else if n = 4 * p + 1 then 2 * p + 1 else if n = 1 then p + 1 else if n = 2 * p - 1 then 2 * p + 2
  else if 2 * p < n then (4 * p + 1 - n) / 2 else p + 2 + (2 * p - 1 - n) / 2
def small (l : Int) : List Int := if l = 1 then [1] else if l = 4 then [1, 5, 3, 4] else if l = 5 then [8, 3, 1, 6, 2] else []
/-- the first place, from 0 on -/
def fst (l n : Int) : Int :=
  if l < 6 then (small l).getD (n - 1).toNat 0 - 1 else if l % 4 = 0 then f4 (l / 4) n - 1 else f1 (l / 4) n - 1
/-- a last number that can -/
def Can (l : Int) : Prop := 1 ≤ l ∧ l % 4 < 2
instance (l : Int) : Decidable (Can l) := inferInstanceAs (Decidable (_ ∧ _))
/-- n is a number of the row to l that stands at the place q -/
def At (l q n : Int) : Prop := (1 ≤ n ∧ n ≤ l) ∧ (q = fst l n ∨ q = fst l n + n)
instance (l q n : Int) : Decidable (At l q n) := inferInstanceAs (Decidable (_ ∧ _))
/-- the candidates at a place -/
def cand (l q : Int) : List Int :=
  [2 * (if q + 1 - (6 * (l / 4) + 2 * (l % 4)) < 0 then -(q + 1 - (6 * (l / 4) + 2 * (l % 4))) else q + 1 - (6 * (l / 4) + 2 * (l % 4))), 1, 2, 3, 4, 5, 2 * (l / 4) - 1, 2 * (l / 4) + 1, 4 * (l / 4) - 1, 4 * (l / 4) + 1,
    4 * (l / 4) + -1 - 2 * (q + 1), 2 * (q + 1) - 4 * (l / 4) - -1, 4 * (l / 4) + 1 - 2 * (q + 1), 2 * (q + 1) - 4 * (l / 4) - 1, 4 * (l / 4) + 3 - 2 * (q + 1), 2 * (q + 1) - 4 * (l / 4) - 3]
def R4 (p n a : Int) : Prop := ∃ k, (n = 2 * k ∧ a = 6 * p - k ∧ 1 ≤ k ∧ k ≤ 2 * p) ∨ (n = 4 * p - 1 ∧ a = 2 * p + 1) ∨ (n = 1 ∧ a = p) ∨ (n = 2 * p + 1 ∧ a = p - 1) ∨ (n = 2 * p - 1 ∧ a = 2 * p)
  ∨ (n = 4 * p - 1 - 2 * k ∧ a = k ∧ 1 ≤ k ∧ k ≤ p - 2) ∨ (n = 2 * p - 1 - 2 * k ∧ a = p + 1 + k ∧ 1 ≤ k ∧ k ≤ p - 2)
def R1 (p n a : Int) : Prop := ∃ k, (n = 2 * k ∧ a = 6 * p + 2 - k ∧ 1 ≤ k ∧ k ≤ 2 * p) ∨ (n = 4 * p + 1 ∧ a = 2 * p + 1) ∨ (n = 1 ∧ a = p + 1) ∨ (n = 2 * p - 1 ∧ a = 2 * p + 2)
  ∨ (n = 4 * p + 1 - 2 * k ∧ a = k ∧ 1 ≤ k ∧ k ≤ p) ∨ (n = 2 * p - 1 - 2 * k ∧ a = p + 2 + k ∧ 1 ≤ k ∧ k ≤ p - 2)
theorem f4_R {p n : Int} (hp : 2 ≤ p) (h1 : 1 ≤ n) (h2 : n ≤ 4 * p) : R4 p n (f4 p n) := by
  unfold f4
  by_cases a : n % 2 = 0
  · rw [if_pos a]; exact ⟨n / 2, .inl (by omega)⟩
  rw [if_neg a]
  by_cases b : n = 4 * p - 1
  · rw [if_pos b]; exact ⟨0, .inr (.inl ⟨b, rfl⟩)⟩
  rw [if_neg b]
  by_cases c : n = 1
  · rw [if_pos c]; exact ⟨0, .inr (.inr (.inl ⟨c, rfl⟩))⟩
  rw [if_neg c]
  by_cases d : n = 2 * p + 1
  · rw [if_pos d]; exact ⟨0, .inr (.inr (.inr (.inl ⟨d, rfl⟩)))⟩
  rw [if_neg d]
  by_cases e : n = 2 * p - 1
  · rw [if_pos e]; exact ⟨0, .inr (.inr (.inr (.inr (.inl ⟨e, rfl⟩))))⟩
  rw [if_neg e]
  by_cases f : 2 * p + 1 < n
  · rw [if_pos f]; exact ⟨(4 * p - 1 - n) / 2, .inr (.inr (.inr (.inr (.inr (.inl ⟨by omega, rfl, by omega, by omega⟩)))))⟩
  · rw [if_neg f]; exact ⟨(2 * p - 1 - n) / 2, .inr (.inr (.inr (.inr (.inr (.inr ⟨by omega, rfl, by omega, by omega⟩)))))⟩
theorem f1_R {p n : Int} (hp : 2 ≤ p) (h1 : 1 ≤ n) (h2 : n ≤ 4 * p + 1) : R1 p n (f1 p n) := by
  unfold f1
  by_cases a : n % 2 = 0
  · rw [if_pos a]; exact ⟨n / 2, .inl (by omega)⟩
  rw [if_neg a]
  by_cases b : n = 4 * p + 1
  · rw [if_pos b]; exact ⟨0, .inr (.inl ⟨b, rfl⟩)⟩
  rw [if_neg b]
  by_cases c : n = 1
  · rw [if_pos c]; exact ⟨0, .inr (.inr (.inl ⟨c, rfl⟩))⟩
  rw [if_neg c]
  by_cases e : n = 2 * p - 1
  · rw [if_pos e]; exact ⟨0, .inr (.inr (.inr (.inl ⟨e, rfl⟩)))⟩
  rw [if_neg e]
  by_cases f : 2 * p < n
  · rw [if_pos f]; exact ⟨(4 * p + 1 - n) / 2, .inr (.inr (.inr (.inr (.inl ⟨by omega, rfl, by omega, by omega⟩))))⟩
  · rw [if_neg f]; exact ⟨(2 * p - 1 - n) / 2, .inr (.inr (.inr (.inr (.inr ⟨by omega, rfl, by omega, by omega⟩))))⟩
theorem R4_fun {p n a b : Int} (hp : 2 ≤ p) (h : R4 p n a) (h' : R4 p n b) : a = b := by
  obtain ⟨k, h⟩ := h
  obtain ⟨j, h'⟩ := h'
  rcases h with h | h | h | h | h | h | h <;> rcases h' with z | z | z | z | z | z | z <;> omega
theorem R1_fun {p n a b : Int} (hp : 2 ≤ p) (h : R1 p n a) (h' : R1 p n b) : a = b := by
  obtain ⟨k, h⟩ := h
  obtain ⟨j, h'⟩ := h'
  rcases h with h | h | h | h | h | h <;> rcases h' with z | z | z | z | z | z <;> omega
theorem R4_rng {p n a : Int} (hp : 2 ≤ p) (h : R4 p n a) : 1 ≤ n ∧ n ≤ 4 * p ∧ 1 ≤ a ∧ a + n ≤ 8 * p := by
  obtain ⟨k, h⟩ := h
  rcases h with h | h | h | h | h | h | h <;> omega
theorem R1_rng {p n a : Int} (hp : 2 ≤ p) (h : R1 p n a) : 1 ≤ n ∧ n ≤ 4 * p + 1 ∧ 1 ≤ a ∧ a + n ≤ 8 * p + 2 := by
  obtain ⟨k, h⟩ := h
  rcases h with h | h | h | h | h | h <;> omega
theorem R4_uniq {p n a m b q : Int} (hp : 2 ≤ p) (h : R4 p n a) (h' : R4 p m b) (hq : q = a ∨ q = a + n) (hq' : q = b ∨ q = b + m) : n = m := by
  obtain ⟨k, h⟩ := h
  obtain ⟨j, h'⟩ := h'
  rcases h with h | h | h | h | h | h | h <;> rcases h' with z | z | z | z | z | z | z <;> rcases hq with x | x <;> rcases hq' with y | y <;> omega
theorem R1_uniq {p n a m b q : Int} (hp : 2 ≤ p) (h : R1 p n a) (h' : R1 p m b) (hq : q = a ∨ q = a + n) (hq' : q = b ∨ q = b + m) : n = m := by
  obtain ⟨k, h⟩ := h
  obtain ⟨j, h'⟩ := h'
  rcases h with h | h | h | h | h | h <;> rcases h' with z | z | z | z | z | z <;> rcases hq with x | x <;> rcases hq' with y | y <;> omega
theorem R4_ex {p q : Int} (hp : 2 ≤ p) (h1 : 1 ≤ q) (h2 : q ≤ 8 * p) : ∃ n a, R4 p n a ∧ (q = a ∨ q = a + n) := by
  by_cases c1 : q ≤ p - 2
  · exact ⟨4 * p - 1 - 2 * q, q, ⟨q, .inr (.inr (.inr (.inr (.inr (.inl ⟨rfl, rfl, h1, c1⟩)))))⟩, .inl rfl⟩
  by_cases c2 : q = p - 1
  · exact ⟨2 * p + 1, p - 1, ⟨0, .inr (.inr (.inr (.inl ⟨rfl, rfl⟩)))⟩, .inl c2⟩
  by_cases c3 : q = p
  · exact ⟨1, p, ⟨0, .inr (.inr (.inl ⟨rfl, rfl⟩))⟩, .inl c3⟩
  by_cases c4 : q = p + 1
  · exact ⟨1, p, ⟨0, .inr (.inr (.inl ⟨rfl, rfl⟩))⟩, .inr c4⟩
  by_cases c5 : q < 2 * p
  · exact ⟨2 * p - 1 - 2 * (q - p - 1), p + 1 + (q - p - 1), ⟨q - p - 1, .inr (.inr (.inr (.inr (.inr (.inr ⟨rfl, rfl, by omega, by omega⟩)))))⟩, .inl (by omega)⟩
  by_cases c6 : q = 2 * p
  · exact ⟨2 * p - 1, 2 * p, ⟨0, .inr (.inr (.inr (.inr (.inl ⟨rfl, rfl⟩))))⟩, .inl c6⟩
  by_cases c7 : q = 2 * p + 1
  · exact ⟨4 * p - 1, 2 * p + 1, ⟨0, .inr (.inl ⟨rfl, rfl⟩)⟩, .inl c7⟩
  by_cases c8 : q < 3 * p
  · exact ⟨2 * p - 1 - 2 * (3 * p - q), p + 1 + (3 * p - q), ⟨3 * p - q, .inr (.inr (.inr (.inr (.inr (.inr ⟨rfl, rfl, by omega, by omega⟩)))))⟩, .inr (by omega)⟩
  by_cases c9 : q = 3 * p
  · exact ⟨2 * p + 1, p - 1, ⟨0, .inr (.inr (.inr (.inl ⟨rfl, rfl⟩)))⟩, .inr (by omega)⟩
  by_cases c10 : q < 4 * p - 1
  · exact ⟨4 * p - 1 - 2 * (4 * p - 1 - q), 4 * p - 1 - q, ⟨4 * p - 1 - q, .inr (.inr (.inr (.inr (.inr (.inl ⟨rfl, rfl, by omega, by omega⟩)))))⟩, .inr (by omega)⟩
  by_cases c11 : q = 4 * p - 1
  · exact ⟨2 * p - 1, 2 * p, ⟨0, .inr (.inr (.inr (.inr (.inl ⟨rfl, rfl⟩))))⟩, .inr (by omega)⟩
  by_cases c12 : q < 6 * p
  · exact ⟨2 * (6 * p - q), 6 * p - (6 * p - q), ⟨6 * p - q, .inl ⟨rfl, rfl, by omega, by omega⟩⟩, .inl (by omega)⟩
  by_cases c13 : q = 6 * p
  · exact ⟨4 * p - 1, 2 * p + 1, ⟨0, .inr (.inl ⟨rfl, rfl⟩)⟩, .inr (by omega)⟩
  · exact ⟨2 * (q - 6 * p), 6 * p - (q - 6 * p), ⟨q - 6 * p, .inl ⟨rfl, rfl, by omega, by omega⟩⟩, .inr (by omega)⟩
theorem R1_ex {p q : Int} (hp : 2 ≤ p) (h1 : 1 ≤ q) (h2 : q ≤ 8 * p + 2) : ∃ n a, R1 p n a ∧ (q = a ∨ q = a + n) := by
  by_cases c1 : q ≤ p
  · exact ⟨4 * p + 1 - 2 * q, q, ⟨q, .inr (.inr (.inr (.inr (.inl ⟨rfl, rfl, h1, c1⟩))))⟩, .inl rfl⟩
  by_cases c3 : q = p + 1
  · exact ⟨1, p + 1, ⟨0, .inr (.inr (.inl ⟨rfl, rfl⟩))⟩, .inl c3⟩
  by_cases c4 : q = p + 2
  · exact ⟨1, p + 1, ⟨0, .inr (.inr (.inl ⟨rfl, rfl⟩))⟩, .inr (by omega)⟩
  by_cases c5 : q < 2 * p + 1
  · exact ⟨2 * p - 1 - 2 * (q - p - 2), p + 2 + (q - p - 2), ⟨q - p - 2, .inr (.inr (.inr (.inr (.inr ⟨rfl, rfl, by omega, by omega⟩))))⟩, .inl (by omega)⟩
  by_cases c6 : q = 2 * p + 1
  · exact ⟨4 * p + 1, 2 * p + 1, ⟨0, .inr (.inl ⟨rfl, rfl⟩)⟩, .inl c6⟩
  by_cases c7 : q = 2 * p + 2
  · exact ⟨2 * p - 1, 2 * p + 2, ⟨0, .inr (.inr (.inr (.inl ⟨rfl, rfl⟩)))⟩, .inl c7⟩
  by_cases c8 : q < 3 * p + 1
  · exact ⟨2 * p - 1 - 2 * (3 * p + 1 - q), p + 2 + (3 * p + 1 - q), ⟨3 * p + 1 - q, .inr (.inr (.inr (.inr (.inr ⟨rfl, rfl, by omega, by omega⟩))))⟩, .inr (by omega)⟩
  by_cases c9 : q < 4 * p + 1
  · exact ⟨4 * p + 1 - 2 * (4 * p + 1 - q), 4 * p + 1 - q, ⟨4 * p + 1 - q, .inr (.inr (.inr (.inr (.inl ⟨rfl, rfl, by omega, by omega⟩))))⟩, .inr (by omega)⟩
  by_cases c11 : q = 4 * p + 1
  · exact ⟨2 * p - 1, 2 * p + 2, ⟨0, .inr (.inr (.inr (.inl ⟨rfl, rfl⟩)))⟩, .inr (by omega)⟩
  by_cases c12 : q < 6 * p + 2
  · exact ⟨2 * (6 * p + 2 - q), 6 * p + 2 - (6 * p + 2 - q), ⟨6 * p + 2 - q, .inl ⟨rfl, rfl, by omega, by omega⟩⟩, .inl (by omega)⟩
  by_cases c13 : q = 6 * p + 2
  · exact ⟨4 * p + 1, 2 * p + 1, ⟨0, .inr (.inl ⟨rfl, rfl⟩)⟩, .inr (by omega)⟩
  · exact ⟨2 * (q - (6 * p + 2)), 6 * p + 2 - (q - (6 * p + 2)), ⟨q - (6 * p + 2), .inl ⟨rfl, rfl, by omega, by omega⟩⟩, .inr (by omega)⟩
theorem mem_ix {l : List Int} (i : Nat) {x n : Int} (h : l[i]? = some x) (e : x = n) : n ∈ l := by
  subst e
  exact List.mem_of_getElem? h
theorem R4_cand {p n a q : Int} (hp : 2 ≤ p) (h : R4 p n a) (hq : q + 1 = a ∨ q + 1 = a + n) : n ∈ cand (4 * p) q := by
  obtain ⟨k, h⟩ := h
  have e : 4 * p / 4 = p := by omega
  have e2 : 4 * p % 4 = 0 := by omega
  unfold cand
  rw [e, e2]
  rcases h with h | h | h | h | h | h | h
  · refine mem_ix 0 rfl ?_
    split <;> omega
  · exact mem_ix 8 rfl (by omega)
  · exact mem_ix 1 rfl (by omega)
  · exact mem_ix 7 rfl (by omega)
  · exact mem_ix 6 rfl (by omega)
  · rcases hq with x | x
    · exact mem_ix 10 rfl (by omega)
    · exact mem_ix 11 rfl (by omega)
  · rcases hq with x | x
    · exact mem_ix 12 rfl (by omega)
    · exact mem_ix 13 rfl (by omega)
theorem R1_cand {p n a q : Int} (hp : 2 ≤ p) (h : R1 p n a) (hq : q + 1 = a ∨ q + 1 = a + n) : n ∈ cand (4 * p + 1) q := by
  obtain ⟨k, h⟩ := h
  have e : (4 * p + 1) / 4 = p := by omega
  have e2 : (4 * p + 1) % 4 = 1 := by omega
  unfold cand
  rw [e, e2]
  rcases h with h | h | h | h | h | h
  · refine mem_ix 0 rfl ?_
    split <;> omega
  · exact mem_ix 9 rfl (by omega)
  · exact mem_ix 1 rfl (by omega)
  · exact mem_ix 6 rfl (by omega)
  · rcases hq with x | x
    · exact mem_ix 12 rfl (by omega)
    · exact mem_ix 13 rfl (by omega)
  · rcases hq with x | x
    · exact mem_ix 14 rfl (by omega)
    · exact mem_ix 15 rfl (by omega)
/-! the three kinds of last numbers -/
theorem can_cases {l : Int} (h : Can l) : l = 1 ∨ l = 4 ∨ l = 5 ∨ (∃ p, 2 ≤ p ∧ l = 4 * p) ∨ ∃ p, 2 ≤ p ∧ l = 4 * p + 1 := by
  obtain ⟨h1, h2⟩ := h
  by_cases a : l < 6
  · have : l = 1 ∨ l = 4 ∨ l = 5 := by omega
    rcases this with e | e | e
    · exact .inl e
    · exact .inr (.inl e)
    · exact .inr (.inr (.inl e))
  · by_cases b : l % 4 = 0
    · exact .inr (.inr (.inr (.inl ⟨l / 4, by omega, by omega⟩)))
    · exact .inr (.inr (.inr (.inr ⟨l / 4, by omega, by omega⟩)))
theorem fst4 {p : Int} (hp : 2 ≤ p) (n : Int) : fst (4 * p) n = f4 p n - 1 := by
  unfold fst
  rw [if_neg (by omega), if_pos (by omega), show 4 * p / 4 = p by omega]
theorem fst1 {p : Int} (hp : 2 ≤ p) (n : Int) : fst (4 * p + 1) n = f1 p n - 1 := by
  unfold fst
  rw [if_neg (by omega), if_neg (by omega), show (4 * p + 1) / 4 = p by omega]
/-- small numbers, one by one -/
theorem five {n l : Int} (h1 : 1 ≤ n) (h2 : n ≤ l) (hl : l ≤ 5) : n = 1 ∨ n = 2 ∨ n = 3 ∨ n = 4 ∨ n = 5 := by omega
def smallOk (l : Int) : Bool :=
  [1, 2, 3, 4, 5].all fun n => decide (l < n) || ((decide (0 ≤ fst l n) && decide (fst l n + n < 2 * l)) && decide (n ∈ cand l (fst l n)) && decide (n ∈ cand l (fst l n + n)) &&
    [1, 2, 3, 4, 5].all fun m => decide (l < m) || decide (n = m) || (decide (fst l n ≠ fst l m) && decide (fst l n ≠ fst l m + m) && decide (fst l n + n ≠ fst l m) && decide (fst l n + n ≠ fst l m + m)))
theorem small_all : smallOk 1 = true ∧ smallOk 4 = true ∧ smallOk 5 = true := by decide +kernel
theorem small_use {l n : Int} (h : smallOk l = true) (hl : l ≤ 5) (h1 : 1 ≤ n) (h2 : n ≤ l) : (0 ≤ fst l n ∧ fst l n + n < 2 * l) ∧ n ∈ cand l (fst l n) ∧ n ∈ cand l (fst l n + n) ∧
    ∀ m, 1 ≤ m → m ≤ l → n ≠ m → fst l n ≠ fst l m ∧ fst l n ≠ fst l m + m ∧ fst l n + n ≠ fst l m ∧ fst l n + n ≠ fst l m + m := by
  have mem : ∀ m : Int, 1 ≤ m → m ≤ l → m ∈ ([1, 2, 3, 4, 5] : List Int) := fun m a b => by
    rcases five a b hl with e | e | e | e | e <;> subst e <;> decide
  have q := List.all_eq_true.mp h n (mem n h1 h2)
  simp only [Bool.or_eq_true, Bool.and_eq_true, decide_eq_true_eq] at q
  rcases q with q | q
  · omega
  obtain ⟨⟨⟨q1, q2⟩, q3⟩, q4⟩ := q
  refine ⟨q1, q2, q3, fun m a b ne => ?_⟩
  have z := List.all_eq_true.mp q4 m (mem m a b)
  simp only [Bool.or_eq_true, Bool.and_eq_true, decide_eq_true_eq] at z
  rcases z with (z | z) | z
  · omega
  · exact absurd z ne
  · exact ⟨z.1.1.1, z.1.1.2, z.1.2, z.2⟩
def smallEx (l : Int) : Bool := [0, 1, 2, 3, 4, 5, 6, 7, 8, 9].all fun q => decide (2 * l ≤ q) || [1, 2, 3, 4, 5].any fun n => decide (At l q n)
theorem small_ex : smallEx 1 = true ∧ smallEx 4 = true ∧ smallEx 5 = true := by decide +kernel
/-! what is said of a row, for every last number that can -/
theorem fst_rng {l n : Int} (hl : Can l) (h1 : 1 ≤ n) (h2 : n ≤ l) : 0 ≤ fst l n ∧ fst l n + n < 2 * l := by
  rcases can_cases hl with e | e | e | ⟨p, hp, e⟩ | ⟨p, hp, e⟩
  · subst e; exact (small_use small_all.1 (by omega) h1 h2).1
  · subst e; exact (small_use small_all.2.1 (by omega) h1 h2).1
  · subst e; exact (small_use small_all.2.2 (by omega) h1 h2).1
  · subst e; rw [fst4 hp]; have := R4_rng hp (f4_R hp h1 h2); omega
  · subst e; rw [fst1 hp]; have := R1_rng hp (f1_R hp h1 h2); omega
theorem small_uniq {l q n m : Int} (h : smallOk l = true) (hl : l ≤ 5) (a : At l q n) (b : At l q m) : n = m := by
  obtain ⟨⟨a1, a2⟩, a3⟩ := a
  obtain ⟨⟨b1, b2⟩, b3⟩ := b
  by_cases e : n = m
  · exact e
  · have z := (small_use h hl a1 a2).2.2.2 m b1 b2 e
    omega
theorem at_uniq {l q n m : Int} (hl : Can l) (a : At l q n) (b : At l q m) : n = m := by
  rcases can_cases hl with e | e | e | ⟨p, hp, e⟩ | ⟨p, hp, e⟩
  · subst e; exact small_uniq small_all.1 (by omega) a b
  · subst e; exact small_uniq small_all.2.1 (by omega) a b
  · subst e; exact small_uniq small_all.2.2 (by omega) a b
  · subst e
    obtain ⟨⟨a1, a2⟩, a3⟩ := a
    obtain ⟨⟨b1, b2⟩, b3⟩ := b
    rw [fst4 hp] at a3 b3
    exact R4_uniq (q := q + 1) hp (f4_R hp a1 a2) (f4_R hp b1 b2) (by omega) (by omega)
  · subst e
    obtain ⟨⟨a1, a2⟩, a3⟩ := a
    obtain ⟨⟨b1, b2⟩, b3⟩ := b
    rw [fst1 hp] at a3 b3
    exact R1_uniq (q := q + 1) hp (f1_R hp a1 a2) (f1_R hp b1 b2) (by omega) (by omega)
theorem at_cand {l q n : Int} (hl : Can l) (a : At l q n) : n ∈ cand l q := by
  rcases can_cases hl with e | e | e | ⟨p, hp, e⟩ | ⟨p, hp, e⟩
  · subst e
    obtain ⟨⟨a1, a2⟩, a3 | a3⟩ := a <;> subst a3
    · exact (small_use small_all.1 (by omega) a1 a2).2.1
    · exact (small_use small_all.1 (by omega) a1 a2).2.2.1
  · subst e
    obtain ⟨⟨a1, a2⟩, a3 | a3⟩ := a <;> subst a3
    · exact (small_use small_all.2.1 (by omega) a1 a2).2.1
    · exact (small_use small_all.2.1 (by omega) a1 a2).2.2.1
  · subst e
    obtain ⟨⟨a1, a2⟩, a3 | a3⟩ := a <;> subst a3
    · exact (small_use small_all.2.2 (by omega) a1 a2).2.1
    · exact (small_use small_all.2.2 (by omega) a1 a2).2.2.1
  · subst e
    obtain ⟨⟨a1, a2⟩, a3⟩ := a
    rw [fst4 hp] at a3
    exact R4_cand hp (f4_R hp a1 a2) (by omega)
  · subst e
    obtain ⟨⟨a1, a2⟩, a3⟩ := a
    rw [fst1 hp] at a3
    exact R1_cand hp (f1_R hp a1 a2) (by omega)
theorem small_exu {l q : Int} (h : smallEx l = true) (hl : l ≤ 5) (h1 : 0 ≤ q) (h2 : q < 2 * l) : ∃ n, At l q n := by
  have m : q ∈ ([0, 1, 2, 3, 4, 5, 6, 7, 8, 9] : List Int) := by
    have : q = 0 ∨ q = 1 ∨ q = 2 ∨ q = 3 ∨ q = 4 ∨ q = 5 ∨ q = 6 ∨ q = 7 ∨ q = 8 ∨ q = 9 := by omega
    rcases this with e | e | e | e | e | e | e | e | e | e <;> subst e <;> decide
  have z := List.all_eq_true.mp h q m
  simp only [Bool.or_eq_true, decide_eq_true_eq] at z
  rcases z with z | z
  · omega
  · obtain ⟨n, _, e⟩ := List.any_eq_true.mp z
    exact ⟨n, of_decide_eq_true e⟩
theorem at_ex {l q : Int} (hl : Can l) (h1 : 0 ≤ q) (h2 : q < 2 * l) : ∃ n, At l q n := by
  rcases can_cases hl with e | e | e | ⟨p, hp, e⟩ | ⟨p, hp, e⟩
  · subst e; exact small_exu small_ex.1 (by omega) h1 h2
  · subst e; exact small_exu small_ex.2.1 (by omega) h1 h2
  · subst e; exact small_exu small_ex.2.2 (by omega) h1 h2
  · subst e
    obtain ⟨n, a, r, hq⟩ := R4_ex (q := q + 1) hp (by omega) (by omega)
    have g := R4_rng hp r
    have e := R4_fun hp r (f4_R hp g.1 g.2.1)
    refine ⟨n, ⟨g.1, g.2.1⟩, ?_⟩
    rw [fst4 hp]
    omega
  · subst e
    obtain ⟨n, a, r, hq⟩ := R1_ex (q := q + 1) hp (by omega) (by omega)
    have g := R1_rng hp r
    have e := R1_fun hp r (f1_R hp g.1 g.2.1)
    refine ⟨n, ⟨g.1, g.2.1⟩, ?_⟩
    rw [fst1 hp]
    omega
/-- the number at a place -/
def num (l q : Int) : Int := ((cand l q).filter fun n => decide (At l q n)).headD 0
theorem filt_at {l q n : Int} (hl : Can l) (a : At l q n) : ∃ r, (cand l q).filter (fun n => decide (At l q n)) = n :: r := by
  have m : n ∈ (cand l q).filter (fun n => decide (At l q n)) := List.mem_filter.mpr ⟨at_cand hl a, decide_eq_true a⟩
  cases e : (cand l q).filter (fun n => decide (At l q n)) with
  | nil => rw [e] at m; cases m
  | cons x r =>
    have x1 : x ∈ (cand l q).filter (fun n => decide (At l q n)) := by rw [e]; exact List.mem_cons_self
    have x2 := of_decide_eq_true (List.mem_filter.mp x1).2
    exact ⟨r, by rw [at_uniq hl x2 a]⟩
theorem num_at {l q n : Int} (hl : Can l) (a : At l q n) : num l q = n := by
  obtain ⟨r, e⟩ := filt_at hl a
  unfold num
  rw [e]
  rfl
theorem at_num {l q : Int} (hl : Can l) (h1 : 0 ≤ q) (h2 : q < 2 * l) : At l q (num l q) := by
  obtain ⟨n, a⟩ := at_ex hl h1 h2
  rw [num_at hl a]
  exact a
end PA

set_option Elab.async false
set_option linter.all false
set_option maxRecDepth 100000
set_option maxHeartbeats 4000000
namespace PA
open PySem PySem.Spec PyProof.Rows L2 Evl
/-! ### names of the built-ins -/
theorem bt_int : bootBuiltins "int" = some (.type "int") := by decide +kernel
theorem bt_bool : bootBuiltins "bool" = some (.type "bool") := by decide +kernel
theorem bt_list : bootBuiltins "list" = some (.type "list") := by decide +kernel
theorem bt_tuple : bootBuiltins "tuple" = some (.type "tuple") := by decide +kernel
theorem bt_str : bootBuiltins "str" = some (.type "str") := by decide +kernel
theorem bt_set : bootBuiltins "set" = some (.type "set") := by decide +kernel
theorem bt_ValueError : bootBuiltins "ValueError" = some (.type "ValueError") := by decide +kernel
theorem bt_len : bootBuiltins "len" = some (.builtin "len") := by decide +kernel
theorem bt_abs : bootBuiltins "abs" = some (.builtin "abs") := by decide +kernel
theorem bt_sum : bootBuiltins "sum" = some (.builtin "sum") := by decide +kernel
theorem bt_min : bootBuiltins "min" = some (.builtin "min") := by decide +kernel
theorem bt_isinstance : bootBuiltins "isinstance" = some (.builtin "isinstance") := by decide +kernel
theorem bt_sorted : bootBuiltins "sorted" = some (.builtin "sorted") := by decide +kernel
theorem bt_all : bootBuiltins "all" = some (.builtin "all") := by decide +kernel
theorem bt_any : bootBuiltins "any" = some (.builtin "any") := by decide +kernel
/-! ### an item of a written dict, by a whole number -/
def KInt (K : PySem.W.Frag) (d : Addr) (k : Int) (v : V) : Prop :=
  ∃ es n u, K.lookup d = some ⟨.type "dict", none, .dict es n, #[]⟩ ∧ (∀ e ∈ es, ∃ k t, e.key = .int k t ∧ e.hash = hashInt k) ∧ findBy Value.isInt es k = some u ∧ RelV v u
def rIxI (K : PySem.W.Frag) : R2 := fun x y H Q => ∃ p z v, x = .ref p ∧ y = .int z ∧ KInt K p z v ∧ Q v H
theorem ix_kint {X : Cx} : IxR X (rIxI X.K) := by
  intro value slice pins s σ H x y v u Q I rx ry h hs
  obtain ⟨p, z, r, rfl, rfl, ⟨es, n, u0, hl, hk, e, ru⟩, q⟩ := h
  obtain rfl : v = Value.ref p := rx
  obtain ⟨t, rfl⟩ := ry
  have hm : s.heap.MapOf (PySem.intKind X.prog X.w) p (fun k => findBy Value.isInt es k) := ⟨_, es, n, I.kIn _ _ hl, ⟨rfl, rfl, rfl⟩, rfl, fun e he => by
    obtain ⟨k, t, e1, e2⟩ := hk e he
    exact ⟨k, by rw [e1]; simp [PySem.intKind, Value.isInt], e2⟩, fun _ => rfl⟩
  exact tail_any hm.typeIs slot_dict_getitem.lookup (wpAny_getItem_of (by simp [PySem.intKind, Value.isInt]) hm e ⟨r, H, I.tok _, ru, q⟩) hs
theorem rv_kint {K : PySem.W.Frag} {H : Hp} {p : Addr} {z : Int} {v : V} (h : KInt K p z v) : RV (rIxI K) (.ref p) (.int z) H v := fun H1 _ _ q => ⟨p, z, v, rfl, rfl, h, q H1 (Ex.refl H1)⟩
/-! ### what a class of errors is -/
structure ExcT (K : PySem.W.Frag) (C : Addr) : Prop where
  ex : PySem.W.excIn K C [.type "ValueError", .type "Exception", .type "BaseException", .type "object"] "ValueError.__new__" = true
  kp : PySem.W.keepIn K (.ref C) = true
  sb : PySem.W.subIn K (.ref C) (.type "BaseException") = some true
  ty : PySem.W.typeIn K (.ref C) = some (.type "type")
/-! ### whole numbers -/
def isNumT (T : String) : Option Bool := match kitB T "int" with
  | some true => (kitB T "bool").map (!·)
  | some false => some false
  | none => none
theorem num_int : isNumT "int" = some true := by decide +kernel
theorem num_bool : isNumT "bool" = some false := by decide +kernel
theorem num_none : isNumT "NoneType" = some false := by decide +kernel
theorem num_str : isNumT "str" = some false := by decide +kernel
theorem num_list : isNumT "list" = some false := by decide +kernel
theorem num_tuple : isNumT "tuple" = some false := by decide +kernel
theorem num_dict : isNumT "dict" = some false := by decide +kernel
/-- whether a value is a whole number: b -/
def Num (K : PySem.W.Frag) (H : Hp) (v : V) (b : Bool) : Prop := ∃ T, TyX K H v (.type T) ∧ isNumT T = some b
theorem Num.int {K : PySem.W.Frag} {H : Hp} (n : Int) : Num K H (.int n) true := ⟨"int", .base (.int n), num_int⟩
theorem ex_ty {K : PySem.W.Frag} {H H' : Hp} {v : V} {t : Value} (e : Ex H H') (h : TyX K H v t) : TyX K H' v t := by
  cases h with
  | base b =>
    cases b with
    | non => exact .base .non
    | bl x => exact .base (.bl x)
    | int x => exact .base (.int x)
    | str x => exact .base (.str x)
    | flt x => exact .base (.flt x)
    | lst z => exact .base (.lst (e _ _ z))
    | frz z => exact .base (.frz (e _ _ z))
    | tup z => exact .base (.tup (e _ _ z))
    | dK z => exact .base (.dK (e _ _ z))
    | dT z => exact .base (.dT (e _ _ z))
    | ins z a b c d f => exact .base (.ins (e _ _ z) a b c d f)
  | byt b => exact .byt b
  | set z => exact .set (e _ _ z)
  | kList a b => exact .kList a b
  | kTuple a b => exact .kTuple a b
  | kDict a b => exact .kDict a b
  | fTuple z => exact .fTuple (e _ _ z)
  | fDict z => exact .fDict (e _ _ z)
theorem Num.ex {K : PySem.W.Frag} {H H' : Hp} {v : V} {b : Bool} (e : Ex H H') (h : Num K H v b) : Num K H' v b := by
  obtain ⟨T, t, n⟩ := h
  exact ⟨T, ex_ty e t, n⟩
/-! ### readings -/
section
variable {K : PySem.W.Frag} {σ : L2.St} {H H' : Hp} {ta tb te tx tc : TE} {t u : TT} {x y z v : V} {D : Ends} {tu tw tz : TS} {g : TG} {r r' : R2}
theorem ev_isi {c : V} {ty cu : Value} {b : Bool} (h : EvA (tCons ta (tCons tb tNil)) σ H [x, c]) (hc : ClsV c cu) (ht : TyX K H x ty) (hk : PySem.W.kitOne K ty cu = some b) : Ev (tCB (rIsi K) (tCons ta (tCons tb tNil))) σ H (.bl b) :=
  ev_cb h fun H1 e _ q => ⟨x, c, ty, cu, b, rfl, hc, ex_ty e ht, hk, q H1 (Ex.refl H1)⟩
theorem ev_abs {i : Int} (ha : Ev ta σ H (.int i)) : Ev (tCB (fun xs H Q => ∃ i, xs = [V.int i] ∧ Q (.int (if i < 0 then -i else i)) H) (tCons ta tNil)) σ H (.int (if i < 0 then -i else i)) :=
  ev_cb (ea_cons ha ea_nil) fun H1 _ _ q => ⟨i, rfl, q H1 (Ex.refl H1)⟩
theorem rv_mulL {i j : Int} (h : -(2 ^ 64) < i ∧ i < 2 ^ 64) : RV (rI CMul fun i j => .int (i * j)) (.int i) (.int j) H (.int (i * j)) := rv_I (.inl h)
theorem rv_mulR {i j : Int} (h : -(2 ^ 64) < j ∧ j < 2 ^ 64) : RV (rI CMul fun i j => .int (i * j)) (.int i) (.int j) H (.int (i * j)) := rv_I (.inr h)
theorem rv_div {i j : Int} (h : 0 < j ∧ j < 1073741824) : RV (rI CDiv fun i j => .int (i / j)) (.int i) (.int j) H (.int (i / j)) := rv_I h
theorem rv_mod {i j : Int} (h : 0 < j) : RV (rI (fun _ j => 0 < j) fun i j => .int (i % j)) (.int i) (.int j) H (.int (i % j)) := rv_I h
/-- a < b < c -/
theorem ev_chain {w : V} {k1 k2 : Bool} (ha : Ev ta σ H x) (hb : Ev tb σ H y) (hr : RV r x y H (.bl k1)) (hc : k1 = true → Ev tc σ H w) (hr' : k1 = true → RV r' y w H (.bl k2)) : Ev (tChain r r' ta tb tc) σ H (.bl (k1 && k2)) := fun H1 e Q q =>
  ha H1 e _ fun H2 e2 => hb H2 (e.trans e2) _ fun H3 e3 => hr H3 ((e.trans e2).trans e3) _ fun H4 e4 => ⟨k1, rfl, by
    have e14 := ((e.trans e2).trans e3).trans e4
    have e' := (e2.trans e3).trans e4
    cases k1 with
    | true =>
      rw [if_pos rfl]
      exact hc rfl H4 e14 _ fun H5 e5 => hr' rfl H5 (e14.trans e5) _ fun H6 e6 => q H6 ((e'.trans e5).trans e6)
    | false =>
      rw [if_neg Bool.false_ne_true]
      exact q H4 e'⟩
def SpU (sp : Sp) (vs : List V) (H : Hp) (xs : List V) : Prop := ∀ H1, Ex H H1 → ∀ Q : VK, (∀ p H2, H1 p = none → Ex H1 H2 → H2 p = some (.tup xs) → Q (.ref p) H2) → ∀ E : XK, sp vs H1 Q E
theorem eu_call {sp : Sp} {dvs vs xs : List V} {E : XK} {ta : TA} (h : EvA ta σ H vs) (hs : SpU sp (vs ++ dvs) H xs) : EvU (tCall sp dvs E ta) σ H xs := fun H1 e Q q =>
  h H1 e _ fun H2 e2 => hs H2 (e.trans e2) Q (fun p H3 hp e3 h3 => q p H3 (fresh_back e2 hp) (e2.trans e3) h3) E
def RetU (xs : List V) (H : Hp) (Q : VK) : Prop := ∀ p H2, H p = none → Ex H H2 → H2 p = some (.tup xs) → Q (.ref p) H2
theorem RetU.go {xs : List V} {Q : VK} (k : RetU xs H Q) (e : Ex H H') {p : Addr} {H2 : Hp} (hp : H' p = none) (e2 : Ex H' H2) (h : H2 p = some (.tup xs)) : Q (.ref p) H2 := k p H2 (fresh_back e hp) (e.trans e2) h
/-- a written dict of pairs: what it holds at a key -/
theorem ev_dget {d : Addr} {kvs : List (Key × V)} {n : Int} (h : H d = some (.dK kvs)) (hd : Ev ta σ H (.ref d)) (hk : Ev tb σ H (.int n)) (hv : valV kvs (Sum.inl n) = some v) : Ev (tDGet ta tb) σ H v := fun H1 e Q q =>
  hd H1 e _ fun H2 e2 => hk H2 (e.trans e2) _ fun H3 e3 => ⟨d, v, rfl, by
    have := DGet.k (k := Sum.inl n) (((e.trans e2).trans e3) _ _ h)
    rw [hv] at this
    exact this, q H3 (e2.trans e3)⟩
theorem et_din {d : Addr} {kvs : List (Key × V)} {n : Int} (h : H d = some (.dK kvs)) (hk : Ev ta σ H (.int n)) (hd : Ev tb σ H (.ref d)) : EvT (tB (tDIn ta tb)) σ H (valV kvs (Sum.inl n)).isSome := et_B fun H1 e Q q =>
  hk H1 e _ fun H2 e2 => hd H2 (e.trans e2) _ fun H3 e3 => ⟨d, _, rfl, DGet.k (k := Sum.inl n) (((e.trans e2).trans e3) _ _ h), q H3 (e2.trans e3)⟩
/-- a display of a dict -/
def EvPs (trs : List (TE × TE)) (σ : L2.St) (H : Hp) (ps : List (V × V)) : Prop := ∀ H1, Ex H H1 → ∀ Q : List (V × V) → Hp → Prop, (∀ H2, Ex H1 H2 → Q ps H2) → tPairs trs σ H1 Q
theorem ep_nil : EvPs [] σ H [] := fun H1 _ _ q => q H1 (Ex.refl H1)
theorem ep_cons {trs : List (TE × TE)} {ps : List (V × V)} (ha : Ev ta σ H x) (hb : Ev tb σ H y) (h : EvPs trs σ H ps) : EvPs ((ta, tb) :: trs) σ H ((x, y) :: ps) := fun H1 e _ q =>
  ha H1 e _ fun H2 e2 => hb H2 (e.trans e2) _ fun H3 e3 => h H3 ((e.trans e2).trans e3) _ fun H4 e4 => q H4 ((e2.trans e3).trans e4)
theorem q_asgD {i : Nat} {trs : List (TE × TE)} {kvs : List (Key × V)} (h : EvPs trs σ H (kvs.map fun kv => (kV kv.1, kv.2))) (hl : kvs.length ≤ 15) (k : ∀ p H1, H p = none → Ex H H1 → H1 p = some (.dK (mergeK [] kvs)) → tz D (σ.set i (some (.ref p))) H1) :
    tSeq (tAsg (tDisp trs) (gName i)) tz D σ H := fun p hp => h (upd H p (.dK [])) (Ex.new hp) _ fun H2 e2 =>
  ⟨e2 p _ upd_same, kvs, rfl, hl, k p _ hp (Ex.mut ((Ex.new hp).trans e2) hp) upd_same⟩
/-- a loop over a new tuple -/
theorem q_forNU {xs : List V} {tl : TE} {j : Nat} (h : EvU tl σ H xs) (Pv : Addr → Nat → L2.St → Hp → Prop) (h0 : ∀ p H1, H p = none → Ex H H1 → H1 p = some (.tup xs) → Pv p 0 σ H1) (hl : ∀ p i σ' H', i ≤ xs.length → Pv p i σ' H' → SqT K H' p xs)
    (hs : ∀ p i x σ' H', xs[i]? = some x → Pv p i σ' H' → tu { D with nx := Pv p (i + 1), ct := Pv p (i + 1), bk := tz D } (σ'.set j (some x)) H') (hd : ∀ p σ' H', Pv p xs.length σ' H' → tz D σ' H') : tSeq (tFor (iTup K tl) (gName j) tu) tz D σ H :=
  h H (Ex.refl H) _ fun p H1 hp e h1 => ⟨p, rfl, ⟨xs, st_of h1⟩, for_tup (Pv p) (h0 p H1 hp e h1) (hl p) (hs p) (hd p)⟩
/-- xs.extend(a new list) -/
theorem s_ext {l : Addr} {xs ys : List V} (hl : H l = some (.lst xs)) (ha : Ev ta σ H (.ref l)) (h : EvL te σ H ys) (hz : xs.length + ys.length ≤ 100000) (k : ∀ H1, Ex H H1 → D.nx σ (upd H1 l (.lst (xs ++ ys)))) :
    tDrop (tBM K "list" rExtend ta (tCons te tNil)) D σ H := ha H (Ex.refl H) _ fun H1 e1 =>
  ⟨Or.inl ⟨rfl, xs, sq_of (e1 l _ hl)⟩, h H1 e1 _ fun p H2 hp e2 h2 => ⟨l, p, xs, ys, rfl, rfl, e2 l _ (e1 l _ hl), h2, sz_of hz, k H2 (e1.trans e2)⟩⟩
theorem el_is {xs ys : List V} (h : EvL te σ H xs) (e : xs = ys) : EvL te σ H ys := by
  rw [← e]
  exact h
theorem eu_is {xs ys : List V} (h : EvU te σ H xs) (e : xs = ys) : EvU te σ H ys := by
  rw [← e]
  exact h
theorem et_yes : EvT tYes σ H true := fun H1 _ _ q => q H1 (Ex.refl H1)
end
/-! ### lists and comprehensions -/
theorem range_getD (xs : List Int) : (List.range xs.length).map (fun i => xs.getD i 0) = xs := by
  refine List.ext_getElem? fun i => ?_
  rw [List.getElem?_map]
  by_cases h : i < xs.length
  · rw [List.getElem?_eq_getElem (by rw [List.length_range]; exact h), List.getElem?_eq_getElem h, List.getElem_range]
    show some (xs.getD i 0) = _
    rw [List.getD_eq_getElem?_getD]
    simp [h]
  · rw [List.getElem?_eq_none (by rw [List.length_range]; omega), List.getElem?_eq_none (by omega)]
    rfl
theorem given_filter (p : Int → Bool) (xs : List Int) : given xs.length (fun i => p (xs.getD i 0)) (fun i => .int (xs.getD i 0)) = (xs.filter p).map V.int := by
  have e : xs.filter p = ((List.range xs.length).filter fun i => p (xs.getD i 0)).map fun i => xs.getD i 0 := by
    have := congrArg (List.filter p) (range_getD xs)
    rw [← this, List.filter_map]
    rfl
  rw [e, List.map_map]
  rfl
theorem given_all (v : Nat → V) (n : Nat) : given n (fun _ => true) v = (List.range n).map v := by
  unfold given
  rw [List.filter_eq_self.mpr (fun _ _ => rfl)]
theorem getD_of {xs : List Int} {i : Nat} {x : V} (h : (xs.map V.int)[i]? = some x) : x = .int (xs.getD i 0) := by
  rw [List.getElem?_map] at h
  cases e : xs[i]? with
  | none => rw [e] at h; cases h
  | some n =>
    rw [e] at h
    have h2 : V.int n = x := Option.some.inj h
    rw [← h2, List.getD_eq_getElem?_getD, e]
    rfl
theorem lt_of {α : Type} {xs : List α} {i : Nat} {x : α} (h : xs[i]? = some x) : i < xs.length := (List.getElem?_eq_some_iff.mp h).1
theorem inV_pair (q a b : Int) : inV (.int q) [.int a, .int b] = decide (q = a ∨ q = b) := by
  show ((a == q) || ((b == q) || false)) = _
  by_cases h1 : a = q
  · subst h1
    simp
  · by_cases h2 : b = q
    · subst h2
      simp
    · have h3 : ¬ (q = a ∨ q = b) := by omega
      rw [decide_eq_false h3]
      simp [h1, h2]
end PA

set_option Elab.async false
set_option linter.all false
set_option maxRecDepth 100000
set_option maxHeartbeats 4000000
namespace PA
open PySem PySem.Spec PyProof.Rows L2 Evl
/-! ### lists and tuples of whole numbers, compared -/
theorem eqvAll_ints : ∀ ns ms : List Int, PyData.eqvAll (ns.map PyData.int) (ms.map PyData.int) = decide (ns = ms)
  | [], [] => by simp [PyData.eqvAll]
  | [], _ :: _ => by simp [PyData.eqvAll]
  | _ :: _, [] => by simp [PyData.eqvAll]
  | n :: ns, m :: ms => by
    rw [List.map_cons, List.map_cons]
    show (PyData.eqv (.int n) (.int m) && PyData.eqvAll _ _) = _
    rw [eqvAll_ints ns ms]
    show ((n == m) && decide (ns = ms)) = _
    by_cases h : n = m
    · subst h
      simp
    · simp [h]
theorem eqv_ints (ns ms : List Int) : PyData.eqv (.list (ns.map PyData.int)) (.list (ms.map PyData.int)) = decide (ns = ms) := eqvAll_ints ns ms
theorem eqv_intsT (ns ms : List Int) : PyData.eqv (.tuple (ns.map PyData.int)) (.tuple (ms.map PyData.int)) = decide (ns = ms) := eqvAll_ints ns ms
theorem canAll_ints : ∀ ns : List Int, PyData.canLayAll0 (ns.map PyData.int) = true
  | [] => rfl
  | _ :: r => by
    rw [List.map_cons]
    show (PyData.canLay0 (.int _) && PyData.canLayAll0 _) = true
    rw [canAll_ints r]
    rfl
theorem depAll_ints : ∀ ns : List Int, PyData.depthAll (ns.map PyData.int) = 0
  | [] => rfl
  | _ :: r => by
    rw [List.map_cons]
    show max (PyData.depth (.int _)) (PyData.depthAll _) = 0
    rw [depAll_ints r]
    rfl
theorem shp_ints (ns : List Int) : SeqAt.shaped (.list (ns.map PyData.int)) = true := by
  show (PyData.canLayAll0 _ && decide (PyData.depthAll _ + 1 ≤ 64)) = true
  rw [canAll_ints, depAll_ints]
  rfl
theorem shp_intsT (ns : List Int) : SeqAt.shaped (.tuple (ns.map PyData.int)) = true := by
  show (PyData.canLayAll0 _ && decide (PyData.depthAll _ + 1 ≤ 64)) = true
  rw [canAll_ints, depAll_ints]
  rfl
theorem dpAll_ints {K : PySem.W.Frag} {H : Hp} : ∀ ns : List Int, DpAll K H (ns.map V.int) (ns.map PyData.int)
  | [] => .nil
  | n :: r => .cons (.int n) (dpAll_ints r)
section
variable {K : PySem.W.Frag} {σ : L2.St} {H H' : Hp} {ta tb te tx tc : TE} {t u : TT} {x y z v : V} {D : Ends} {tu tw tz : TS} {g : TG} {r r' : R2}
theorem rv_eqL {a b : Addr} {ns ms : List Int} (ha : SqL K H a (ns.map V.int)) (hb : SqL K H b (ms.map V.int)) : RV (rEqD K) (.ref a) (.ref b) H (.bl (decide (ns = ms))) := fun H1 e Q q =>
  ⟨_, _, .lst (ex_l e ha) (dpAll_ints ns), .lst (ex_l e hb) (dpAll_ints ms), shp_ints _, shp_ints _, by rw [eqv_ints]; exact q H1 (Ex.refl H1)⟩
theorem rv_neL {a b : Addr} {ns ms : List Int} (ha : SqL K H a (ns.map V.int)) (hb : SqL K H b (ms.map V.int)) : RV (rNeD K) (.ref a) (.ref b) H (.bl (!decide (ns = ms))) := fun H1 e Q q =>
  ⟨_, _, .lst (ex_l e ha) (dpAll_ints ns), .lst (ex_l e hb) (dpAll_ints ms), shp_ints _, shp_ints _, by rw [eqv_ints]; exact q H1 (Ex.refl H1)⟩
theorem rv_eqT {a b : Addr} {ns ms : List Int} (ha : SqT K H a (ns.map V.int)) (hb : SqT K H b (ms.map V.int)) : RV (rEqD K) (.ref a) (.ref b) H (.bl (decide (ns = ms))) := fun H1 e Q q =>
  ⟨_, _, .tup (ex_t e ha) (dpAll_ints ns), .tup (ex_t e hb) (dpAll_ints ms), shp_intsT _, shp_intsT _, by rw [eqv_intsT]; exact q H1 (Ex.refl H1)⟩
theorem rv_neT {a b : Addr} {ns ms : List Int} (ha : SqT K H a (ns.map V.int)) (hb : SqT K H b (ms.map V.int)) : RV (rNeD K) (.ref a) (.ref b) H (.bl (!decide (ns = ms))) := fun H1 e Q q =>
  ⟨_, _, .tup (ex_t e ha) (dpAll_ints ns), .tup (ex_t e hb) (dpAll_ints ms), shp_intsT _, shp_intsT _, by rw [eqv_intsT]; exact q H1 (Ex.refl H1)⟩
/-! ### readings with new lists and tuples -/
theorem ev_opU1 {xs : List V} (ha : EvU ta σ H xs) (hb : ∀ H1, Ex H H1 → Ev tb σ H1 y) (hr : ∀ p H1, H1 p = some (.tup xs) → Ex H H1 → RV r (.ref p) y H1 z) : Ev (tOp r ta tb) σ H z := fun H1 e Q q =>
  ha H1 e _ fun p H2 _ e2 h2 => hb H2 (e.trans e2) H2 (Ex.refl H2) _ fun H3 e3 => hr p H3 (e3 _ _ h2) ((e.trans e2).trans e3) H3 (Ex.refl H3) _ fun H4 e4 => q H4 ((e2.trans e3).trans e4)
theorem el_if {b : Bool} {xs : List V} (h : EvT t σ H b) (h1 : b = true → EvL ta σ H xs) (h2 : b = false → EvL tb σ H xs) : EvL (tIf t ta tb) σ H xs := fun H1 e Q q => h H1 e _ fun H2 e2 => by
  have k : ∀ te, EvL te σ H xs → te σ H2 Q := fun te ht => ht H2 (e.trans e2) _ fun p H3 hp e3 h3 => q p H3 (fresh_back e2 hp) (e2.trans e3) h3
  cases b with
  | true => exact k _ (h1 rfl)
  | false => exact k _ (h2 rfl)
/-- xs + ys, both tracked -/
theorem el_cat {xs ys : List V} (ha : ∀ H1, Ex H H1 → ∀ Q : VK, (∀ p H2, Ex H1 H2 → H2 p = some (.lst xs) → Q (.ref p) H2) → ta σ H1 Q) (hb : ∀ H1, Ex H H1 → ∀ Q : VK, (∀ p H2, Ex H1 H2 → H2 p = some (.lst ys) → Q (.ref p) H2) → tb σ H1 Q) (hz : xs.length + ys.length ≤ 100000) :
    EvL (tOp rCat ta tb) σ H (xs ++ ys) := fun H1 e Q q => ha H1 e _ fun p H2 e2 h2 => hb H2 (e.trans e2) _ fun p3 H3 e3 h3 =>
  ⟨p, p3, xs, ys, rfl, rfl, e3 _ _ h2, h3, sz_of hz, fun p4 h4 => q p4 _ (fresh_back (e2.trans e3) h4) ((e2.trans e3).trans (Ex.new h4)) upd_same⟩
/-- a tracked list, new or not -/
theorem at_new {xs : List V} (h : EvL te σ H xs) : ∀ H1, Ex H H1 → ∀ Q : VK, (∀ p H2, Ex H1 H2 → H2 p = some (.lst xs) → Q (.ref p) H2) → te σ H1 Q := fun H1 e Q q => h H1 e Q fun p H2 _ e2 h2 => q p H2 e2 h2
theorem at_old {a : Addr} {xs : List V} (h : Ev te σ H (.ref a)) (ha : H a = some (.lst xs)) : ∀ H1, Ex H H1 → ∀ Q : VK, (∀ p H2, Ex H1 H2 → H2 p = some (.lst xs) → Q (.ref p) H2) → te σ H1 Q := fun H1 e Q q => h H1 e Q fun H2 e2 => q a H2 e2 (e2 _ _ (e _ _ ha))
theorem el_rep {xs : List V} {k : Int} (ha : EvL ta σ H xs) (hb : Ev tb σ H (.int k)) (h0 : 0 ≤ k) (hk : k ≤ 100000) (hz : xs.length * k.toNat ≤ 100000) : EvL (tOp rRep ta tb) σ H (List.replicate k.toNat xs).flatten := fun H1 e Q q =>
  ha H1 e _ fun p H2 hp e2 h2 => hb H2 (e.trans e2) _ fun H3 e3 => ⟨p, k, xs, rfl, rfl, e3 _ _ h2, by omega, by omega, sz_of hz, fun p4 h4 => q p4 _ (fresh_back (e2.trans e3) h4) ((e2.trans e3).trans (Ex.new h4)) upd_same⟩
theorem ev_sum {a : Addr} {ns : List Int} (h : Ev ta σ H (.ref a)) (hs : SqL K H a (ns.map V.int)) : Ev (tCB (rSum K) (tCons ta tNil)) σ H (.int ns.sum) := ev_cb (ea_cons h ea_nil) fun H1 e _ q => ⟨a, ns, rfl, ex_l e hs, q H1 (Ex.refl H1)⟩
theorem ev_cbL {xs : List V} {rr : List V → Hp → VK → Prop} (h : EvL ta σ H xs) (hr : ∀ p H1, H1 p = some (.lst xs) → Ex H H1 → RC rr [.ref p] H1 z) : Ev (tCB rr (tCons ta tNil)) σ H z := fun H1 e Q q =>
  h H1 e _ fun p H2 _ e2 h2 => hr p H2 h2 (e.trans e2) H2 (Ex.refl H2) _ fun H3 e3 => q H3 (e2.trans e3)
theorem ev_cbU {xs : List V} {rr : List V → Hp → VK → Prop} (h : EvU ta σ H xs) (hr : ∀ p H1, H1 p = some (.tup xs) → Ex H H1 → RC rr [.ref p] H1 z) : Ev (tCB rr (tCons ta tNil)) σ H z := fun H1 e Q q =>
  h H1 e _ fun p H2 _ e2 h2 => hr p H2 h2 (e.trans e2) H2 (Ex.refl H2) _ fun H3 e3 => q H3 (e2.trans e3)
theorem rc_sum {a : Addr} {ns : List Int} (hs : SqL K H a (ns.map V.int)) : RC (rSum K) [.ref a] H (.int ns.sum) := fun H1 e _ q => ⟨a, ns, rfl, ex_l e hs, q H1 (Ex.refl H1)⟩
theorem ev_lenT {a : Addr} {xs : List V} (h : Ev ta σ H (.ref a)) (hs : SqT K H a xs) : Ev (tCB (rLenS K) (tCons ta tNil)) σ H (.int (xs.length : Int)) := ev_cb (ea_cons h ea_nil) fun H1 e _ q => ⟨a, xs, rfl, .inr (ex_t e hs), q H1 (Ex.refl H1)⟩
theorem ev_min2 {i j : Int} (ha : Ev ta σ H (.int i)) (hb : Ev tb σ H (.int j)) : Ev (tCB (fun xs H Q => ∃ i j, xs = [V.int i, V.int j] ∧ Q (.int (if j < i then j else i)) H) (tCons ta (tCons tb tNil))) σ H (.int (if j < i then j else i)) :=
  ev_cb (ea_cons ha (ea_cons hb ea_nil)) fun H1 _ _ q => ⟨i, j, rfl, q H1 (Ex.refl H1)⟩
theorem rv_pow {i j : Int} (h : 0 ≤ j ∧ j ≤ 1000000 ∧ i.natAbs < 2 ^ 64) : RV (rI CPow fun i j => .int (i ^ j.toNat)) (.int i) (.int j) H (.int (i ^ j.toNat)) := rv_I h
theorem rv_mulX {i j : Int} {m n : Nat} (hi : Builtin.Int.intBits i ≤ m) (hj : Builtin.Int.intBits j ≤ n) (h : m + n ≤ 134217728) : RV (rI CMulX fun i j => .int (i * j)) (.int i) (.int j) H (.int (i * j)) := rv_I (by
  show (Builtin.Int.intBits i : Int) + (Builtin.Int.intBits j : Int) ≤ 134217728
  omega)
theorem ev_ifV {b : Bool} {v w : V} (h : EvT t σ H b) (h1 : b = true → Ev ta σ H v) (h2 : b = false → Ev tb σ H w) : Ev (tIf t ta tb) σ H (if b = true then v else w) := ev_if h (fun hb => by subst hb; exact h1 rfl) (fun hb => by subst hb; exact h2 rfl)
/-! ### a range with a step upwards -/
theorem rng_up {hi c : Int} (h0 : 0 ≤ hi) (h1 : hi ≤ 1000) (hc : 0 < c) (hc2 : c ≤ 1000) : ∃ n : Nat, RgC 0 hi c n ∧ ∀ i : Nat, i < n → (i : Int) * c < hi := by
  refine ⟨(Builtin.Range.rangeSize 0 hi c).toNat, ⟨by omega, by omega, ?_, ?_⟩, fun i hi' => ?_⟩
  · unfold Builtin.Range.small Builtin.Range.rangeSize
    simp only [Builtin.Range.rangeFitsLong, Bool.and_eq_true, Bool.or_eq_true, decide_eq_true_eq, beq_iff_eq, gt_iff_lt, if_pos hc]
    by_cases z : 0 < hi
    · have q0 : 0 ≤ (hi - 0 - 1) / c := Int.ediv_nonneg (by omega) (by omega)
      have q1 : (hi - 0 - 1) / c ≤ hi - 0 - 1 := Int.ediv_le_self _ (by omega)
      rw [if_pos z]
      omega
    · rw [if_neg z]
      omega
  · unfold Builtin.Range.rangeSize
    rw [if_pos hc]
    split
    · have : 0 ≤ (hi - 0 - 1) / c := Int.ediv_nonneg (by omega) (by omega)
      omega
    · rfl
  · unfold Builtin.Range.rangeSize at hi'
    rw [if_pos hc] at hi'
    split at hi'
    · have q0 : 0 ≤ (hi - 0 - 1) / c := Int.ediv_nonneg (by omega) (by omega)
      have q1 : (i : Int) ≤ (hi - 0 - 1) / c := by omega
      have q2 : (hi - 0 - 1) / c * c ≤ hi - 0 - 1 := Int.ediv_mul_le _ (by omega)
      have q3 : (i : Int) * c ≤ (hi - 0 - 1) / c * c := Int.mul_le_mul_of_nonneg_right q1 (by omega)
      omega
    · simp at hi'
theorem q_forR3 {ta : TA} {j : Nat} {hi c : Int} (h : EvA ta σ H [.int 0, .int hi, .int c]) (h0 : 0 ≤ hi) (h1 : hi ≤ 1000) (hc : 0 < c) (hc2 : c ≤ 1000) (Pv : L2.St → Hp → Prop) (hp : ∀ H1, Ex H H1 → Pv σ H1)
    (hs : ∀ (k : Int) σ' H', 0 ≤ k → k < hi → Pv σ' H' → tu { D with nx := Pv, ct := Pv, bk := tz D } (σ'.set j (some (.int k))) H') (hd : ∀ σ' H', Pv σ' H' → tz D σ' H') : tSeq (tFor (iRng3 ta) (gName j) tu) tz D σ H := by
  obtain ⟨n, hn, hk⟩ := rng_up h0 h1 hc hc2
  refine h H (Ex.refl H) _ fun H1 e => ⟨0, hi, c, n, rfl, hn, for_rangeC (lo := 0) (c := c) (n := n) (D := { D with nx := tz D }) (fun _ => Pv) (hp H1 e) (fun i σ' H' hi' p => ?_) hd⟩
  have := hk i hi'
  exact hs (0 + (i : Int) * c) σ' H' (by have := Int.mul_nonneg (show (0 : Int) ≤ (i : Int) by omega) (show (0 : Int) ≤ c by omega); omega) (by omega) p
end
/-! ### tables -/
def tabl (n : Nat) (f : Nat → Int) : List Int := (List.range n).map f
theorem tabl_len (n : Nat) (f : Nat → Int) : (tabl n f).length = n := by
  unfold tabl
  rw [List.length_map, List.length_range]
theorem tabl_get {n j : Nat} (f : Nat → Int) (h : j < n) : (tabl n f)[j]? = some (f j) := by
  unfold tabl
  rw [List.getElem?_map, List.getElem?_eq_getElem (by rw [List.length_range]; exact h), List.getElem_range]
  rfl
theorem tabl_congr {n : Nat} {f g : Nat → Int} (h : ∀ i, i < n → f i = g i) : tabl n f = tabl n g := by
  unfold tabl
  exact List.map_congr_left fun i hi => h i (List.mem_range.mp hi)
theorem tabl_set {n j : Nat} (f : Nat → Int) (v : Int) : (tabl n f).set j v = tabl n (fun i => if i = j then v else f i) := by
  refine List.ext_getElem? fun i => ?_
  by_cases h : i < n
  · rw [tabl_get _ h]
    by_cases e : i = j
    · subst e
      rw [if_pos rfl, List.getElem?_set_self (by rw [tabl_len]; exact h)]
    · rw [if_neg e, List.getElem?_set_ne (fun z => e z.symm), tabl_get _ h]
  · rw [List.getElem?_eq_none (by rw [List.length_set, tabl_len]; omega), List.getElem?_eq_none (by rw [tabl_len]; omega)]
theorem tabl_const (n : Nat) (c : Int) : tabl n (fun _ => c) = List.replicate n c := by
  unfold tabl
  refine List.ext_getElem? fun i => ?_
  by_cases h : i < n
  · rw [List.getElem?_map, List.getElem?_eq_getElem (by rw [List.length_range]; exact h), List.getElem?_replicate, if_pos h]
    rfl
  · rw [List.getElem?_eq_none (by rw [List.length_map, List.length_range]; omega), List.getElem?_replicate, if_neg h]
theorem rep_flat (n : Nat) (c : Int) : (List.replicate n [V.int c]).flatten = (List.replicate n c).map V.int := by
  induction n with
  | zero => rfl
  | succ n ih =>
    rw [List.replicate_succ, List.flatten_cons, ih, List.replicate_succ, List.map_cons]
    rfl
theorem atI_int {ns : List Int} {i : Int} (h0 : 0 ≤ i) (h1 : i < ns.length) : atI (ns.map V.int) i = some (.int (ns.getD i.toNat 0)) := by
  refine at_of (j := i.toNat) (by omega) ?_
  have hl : i.toNat < ns.length := by omega
  rw [List.getElem?_map, List.getElem?_eq_getElem hl, List.getD_eq_getElem?_getD, List.getElem?_eq_getElem hl]
  rfl
theorem cut_all {xs : List V} (h : xs.length ≤ 63) : cutV xs none (some 63) = xs := by
  unfold cutV
  rw [HT.sIx_none, show HT.sIx xs.length xs.length (some 63) = min 63 xs.length from HT.sIx_nat xs.length xs.length 63]
  rw [Nat.min_eq_right h]
  show List.take (xs.length - 0) (xs.drop 0) = xs
  rw [Nat.sub_zero, List.drop_zero]
  exact List.take_length
end PA

set_option Elab.async false
set_option linter.all false
set_option maxRecDepth 100000
set_option maxHeartbeats 4000000
namespace PA
open PySem PySem.Spec PyProof.Rows L2 Evl
/-! ### comparisons in a chain of any length, as a test -/
structure PCh (X : Cx) (ops : List CmpOp) (es : List Expr) (t : V → TT) : Prop where
  run : ∀ (pos : Pos) (pins : List (Addr × Obj)) (s : Shared) (σ : L2.St) (H : Hp) (x : V) (v : Value) (Q : Bool → Hp → Prop), Inv X pins σ H s → RelV x v → t x σ H Q → wpAny (model X.prog X.w) X.A (testChain pos v ops (evalEach es X.env)) (TP X pins σ Q) X.xe s
def tLast (r : R2) (tb : TE) : V → TT := fun x σ H Q => tb σ H fun y H1 => r x y H1 fun z H2 => ∃ k, z = .bl k ∧ Q k H2
def tLink (r : R2) (tb : TE) (t : V → TT) : V → TT := fun x σ H Q => tb σ H fun y H1 => r x y H1 fun z H2 => ∃ k, z = .bl k ∧ if k = true then t y σ H2 Q else Q false H2
theorem pch_last {X : Cx} {op : CmpOp} {r : R2} {b : Expr} {tb : TE} (ho : OpR X (compareOp op) r) (hb : PE X b tb) : PCh X [op] [b] (tLast r tb) := by
  refine ⟨fun pos pins s σ H x v Q I rx h => ?_⟩
  refine test_last (thn (hb.run pins s σ H _ I h) fun u s1 ⟨y, H1, I1, r1, q1⟩ => thn (ho pins s1 σ H1 x y v u _ I1 rx r1 q1) fun d s2 ⟨z, H2, I2, r2, k, e, q2⟩ => ?_)
  subst e
  cases r2
  exact wpAny_truthy_bool ⟨H2, I2, q2⟩
theorem pch_link {X : Cx} {op op' : CmpOp} {ops : List CmpOp} {r : R2} {b b' : Expr} {bs : List Expr} {tb : TE} {t : V → TT} (ho : OpR X (compareOp op) r) (hb : PE X b tb) (h : PCh X (op' :: ops) (b' :: bs) t) : PCh X (op :: op' :: ops) (b :: b' :: bs) (tLink r tb t) := by
  refine ⟨fun pos pins s σ H x v Q I rx hw => ?_⟩
  refine test_link (r' := eval b' X.env) (rs := evalEach bs X.env) (thn (hb.run pins s σ H _ I hw) fun u s1 ⟨y, H1, I1, r1, q1⟩ => thn (ho pins s1 σ H1 x y v u _ I1 rx r1 q1) fun d s2 ⟨z, H2, I2, r2, k, e, q2⟩ => ?_)
  subst e
  cases r2
  refine wpAny_truthy_bool ?_
  cases k with
  | false => exact ite_ff ⟨H2, I2, q2⟩
  | true => exact ite_tt (h.run pos pins s2 σ H2 y u Q I2 r1 q2)
theorem pt_chainN {X : Cx} {a : Expr} {ta : TE} {op op' : CmpOp} {ops : List CmpOp} {b b' : Expr} {bs : List Expr} {t : V → TT} {pos : Pos} (ha : PE X a ta) (h : PCh X (op :: op' :: ops) (b :: b' :: bs) t) (hm : lastMarks (op :: op' :: ops) (b :: b' :: bs) = false := by with_unfolding_all rfl) :
    PT X (.Compare a (op :: op' :: ops) (b :: b' :: bs) pos) (fun σ H Q => ta σ H fun x H1 => t x σ H1 Q) := by
  refine ⟨fun pins s σ H Q I hw => ?_⟩
  exact isTrue_chain (thn (ha.run pins s σ H _ I hw) fun v s1 ⟨x, H1, I1, r1, q1⟩ => h.run pos pins s1 σ H1 x v Q I1 r1 q1) hm
section
variable {K : PySem.W.Frag} {σ : L2.St} {H H' : Hp} {ta tb te tx tc : TE} {t u : TT} {x y z v : V} {D : Ends} {tu tw tz : TS} {g : TG} {r r' : R2}
theorem et_chainN {t : V → TT} {b : Bool} (ha : Ev ta σ H x) (h : EvT (t x) σ H b) : EvT (fun σ H Q => ta σ H fun x H1 => t x σ H1 Q) σ H b := fun H1 e _ q => ha H1 e _ fun H2 e2 => h H2 (e.trans e2) _ fun H3 e3 => q H3 (e2.trans e3)
theorem et_last {b : Bool} (hb : Ev tb σ H y) (hr : RV r x y H (.bl b)) : EvT (tLast r tb x) σ H b := fun H1 e _ q => hb H1 e _ fun H2 e2 => hr H2 (e.trans e2) _ fun H3 e3 => ⟨b, rfl, q H3 (e2.trans e3)⟩
theorem et_link {t : V → TT} {k b : Bool} (hb : Ev tb σ H y) (hr : RV r x y H (.bl k)) (h : k = true → EvT (t y) σ H b) : EvT (tLink r tb t x) σ H (k && b) := fun H1 e Q q => hb H1 e _ fun H2 e2 => hr H2 (e.trans e2) _ fun H3 e3 => ⟨k, rfl, by
  cases k with
  | false =>
    rw [if_neg Bool.false_ne_true]
    exact q H3 (e2.trans e3)
  | true =>
    rw [if_pos rfl]
    exact h rfl H3 ((e.trans e2).trans e3) _ fun H4 e4 => q H4 ((e2.trans e3).trans e4)⟩
/-! ### comprehensions over a tuple, over a range from a number on -/
theorem el_lcT {a : Addr} {xs : List V} {tl : TE} {j : Nat} {vs : List Nat} (f : Nat → Bool) (v : Nat → V) (h : Ev tl σ H (.ref a)) (hx : SqT K H a xs) (hz : xs.length ≤ 40000) (hw : ∀ x, wipe ((wipe σ vs).set j (some x)) vs = wipe σ vs)
    (ht : ∀ (i : Nat) (x : V) H1, Ex H H1 → xs[i]? = some x → EvT t ((wipe σ vs).set j (some x)) H1 (f i)) (he : ∀ (i : Nat) (x : V) H1, Ex H H1 → xs[i]? = some x → f i = true → Ev te ((wipe σ vs).set j (some x)) H1 (v i)) :
    EvL (tLc (iTup K tl) (gName j) t te vs) σ H (given xs.length f v) := fun H0 e Q q => h H0 e _ fun H1 e1 => ⟨a, rfl, ⟨xs, ex_t (e.trans e1) hx⟩, fun Dl hD =>
  lc_tup (xs := xs) (Cw H1 f v Dl) ⟨hD, Ex.new hD, upd_same⟩ (fun i H' _ p => ex_t ((e.trans e1).trans p.2.1) hx) (fun i x H' hi p => ⟨hw x, cw_turn p (by have := (List.getElem?_eq_some_iff.mp hi).1; omega) (ht i x H1 (e.trans e1) hi) (fun hf => he i x H1 (e.trans e1) hi hf)⟩)
    (fun H' p => q Dl H' (fresh_back e1 p.1) (e1.trans p.2.1) p.2.2)⟩
theorem el_lcNU {xs : List V} {tl : TE} {j : Nat} {vs : List Nat} (f : Nat → Bool) (v : Nat → V) (h : EvU tl σ H xs) (hz : xs.length ≤ 40000) (hw : ∀ x, wipe ((wipe σ vs).set j (some x)) vs = wipe σ vs)
    (ht : ∀ (i : Nat) (x : V) H1, Ex H H1 → xs[i]? = some x → EvT t ((wipe σ vs).set j (some x)) H1 (f i)) (he : ∀ (i : Nat) (x : V) H1, Ex H H1 → xs[i]? = some x → f i = true → Ev te ((wipe σ vs).set j (some x)) H1 (v i)) :
    EvL (tLc (iTup K tl) (gName j) t te vs) σ H (given xs.length f v) := fun H0 e Q q => h H0 e _ fun a H1 ha e1 hx => ⟨a, rfl, ⟨xs, st_of hx⟩, fun Dl hD =>
  lc_tup (xs := xs) (Cw H1 f v Dl) ⟨hD, Ex.new hD, upd_same⟩ (fun i H' _ p => st_of (p.2.1 a _ hx)) (fun i x H' hi p => ⟨hw x, cw_turn p (by have := (List.getElem?_eq_some_iff.mp hi).1; omega) (ht i x H1 (e.trans e1) hi) (fun hf => he i x H1 (e.trans e1) hi hf)⟩)
    (fun H' p => q Dl H' (fresh_back e1 p.1) (e1.trans p.2.1) p.2.2)⟩
theorem el_lcR2 {ta : TA} {j : Nat} {vs : List Nat} {lo n : Int} (f : Nat → Bool) (v : Nat → V) (h : EvA ta σ H [.int lo, .int n]) (hn : 0 ≤ lo ∧ lo ≤ 40000 ∧ -40000 ≤ n ∧ n ≤ 40000) (hw : ∀ x, wipe ((wipe σ vs).set j (some x)) vs = wipe σ vs)
    (ht : ∀ (i : Nat) H1, Ex H H1 → lo + (i : Int) < n → EvT t ((wipe σ vs).set j (some (.int (lo + (i : Int))))) H1 (f i)) (he : ∀ (i : Nat) H1, Ex H H1 → lo + (i : Int) < n → f i = true → Ev te ((wipe σ vs).set j (some (.int (lo + (i : Int))))) H1 (v i)) :
    EvL (tLc (iRng2 ta) (gName j) t te vs) σ H (given (n - lo).toNat f v) := fun H0 e Q q => h H0 e _ fun H1 e1 => ⟨lo, n, rfl, ⟨by omega, by omega, by omega, by omega⟩, fun Dl hD =>
  lc_range (lo := lo) (n := (n - lo).toNat) (Cw H1 f v Dl) ⟨hD, Ex.new hD, upd_same⟩ (fun i H' hi p => ⟨hw _, cw_turn p (by omega) (ht i H1 (e.trans e1) (by omega)) (fun hf => he i H1 (e.trans e1) (by omega) hf)⟩) (fun H' p => q Dl H' (fresh_back e1 p.1) (e1.trans p.2.1) p.2.2)⟩
/-- all([..]) of a made list of truths -/
theorem ev_allN {n : Nat} {b : Nat → Bool} (h : EvL te σ H (given n (fun _ => true) (fun i => .bl (b i)))) : Ev (tCB (rAll K) (tCons te tNil)) σ H (.bl ((List.range n).all b)) :=
  ev_cbL h fun p H1 hp _ H2 e2 _ q => ⟨p, (List.range n).map b, rfl, by
    rw [given_all] at hp
    rw [List.map_map]
    exact ex_l e2 (sq_of hp), by
    rw [List.all_map]
    exact q H2 (Ex.refl H2)⟩
theorem ev_allT {n : Nat} (h : EvL te σ H (given n (fun _ => true) (fun _ => .bl true))) : Ev (tCB (rAll K) (tCons te tNil)) σ H (.bl true) := ev_is (ev_allN (b := fun _ => true) h) (by
  have : (List.range n).all (fun _ => true) = true := List.all_eq_true.mpr fun _ _ => rfl
  rw [this])
/-- sorted of whole numbers: whatever is the same list in order -/
theorem el_sorted {a : Addr} {ns ms : List Int} (h : Ev ta σ H (.ref a)) (hs : SqL K H a (ns.map V.int)) (hm : ∀ ns' : List Int, ns'.Perm ns → ns'.Pairwise (· ≤ ·) → ns' = ms) : EvL (tCB (rSortedI K) (tCons ta tNil)) σ H (ms.map V.int) := fun H1 e Q q =>
  h H1 e _ fun H2 e2 => ⟨a, ns, rfl, ex_l (e.trans e2) hs, fun ns' p hp hq hn => by
    have := hm ns' hp hq
    subst this
    exact q p _ (fresh_back e2 hn) (e2.trans (Ex.new hn)) upd_same⟩
theorem rgV_ints (a b : Int) : rgV a b = ((List.range (b - a).toNat).map fun (i : Nat) => a + (i : Int)).map V.int := by
  unfold rgV
  rw [List.map_map]
  rfl
theorem el_listRg {i j : Int} (ha : Ev ta σ H (.int i)) (hb : Ev tb σ H (.int j)) (h0 : 0 ≤ i) (h1 : i ≤ 100000) (h2 : 0 ≤ j) (h3 : j ≤ 100000) : EvL (tLstRg (tRg2 ta tb)) σ H (((List.range (j - i).toNat).map fun (k : Nat) => i + (k : Int)).map V.int) := fun H1 e Q q =>
  ha H1 e _ fun H2 e2 => hb H2 (e.trans e2) _ fun H3 e3 => ⟨i, j, rfl, rfl, RgOk.of_le h0 (by omega) (by omega) h2, fun p hp => by
    rw [rgV_ints]
    exact q p _ (fresh_back (e2.trans e3) hp) ((e2.trans e3).trans (Ex.new hp)) upd_same⟩
end
/-! ### two lists in order with the same numbers are one -/
theorem sorted_eq : ∀ {l m : List Int}, l.Perm m → l.Pairwise (· ≤ ·) → m.Pairwise (· ≤ ·) → l = m
  | [], m, p, _, _ => (List.Perm.nil_eq p)
  | a :: l, [], p, _, _ => by
    have := p.length_eq
    simp at this
  | a :: l, b :: m, p, hl, hm => by
    have ha := List.pairwise_cons.mp hl
    have hb := List.pairwise_cons.mp hm
    have h1 : a ≤ b := by
      rcases List.mem_cons.mp (p.mem_iff.mpr List.mem_cons_self) with e | e
      · rw [e]; exact Int.le_refl _
      · exact ha.1 b e
    have h2 : b ≤ a := by
      rcases List.mem_cons.mp (p.mem_iff.mp List.mem_cons_self) with e | e
      · rw [e]; exact Int.le_refl _
      · exact hb.1 a e
    have e : a = b := by omega
    subst e
    rw [sorted_eq (List.Perm.cons_inv p) ha.2 hb.2]
theorem range_sorted (a : Int) (n : Nat) : ((List.range n).map fun (k : Nat) => a + (k : Int)).Pairwise (· ≤ ·) := by
  rw [List.pairwise_map]
  refine List.Pairwise.imp (fun h => ?_) List.pairwise_lt_range
  omega
theorem range_nodup (a : Int) (n : Nat) : ((List.range n).map fun (k : Nat) => a + (k : Int)).Nodup := by
  unfold List.Nodup
  rw [List.pairwise_map]
  refine List.Pairwise.imp (fun h => ?_) List.pairwise_lt_range
  omega
theorem range_mem {a x : Int} {n : Nat} : x ∈ ((List.range n).map fun (k : Nat) => a + (k : Int)) ↔ a ≤ x ∧ x < a + n := by
  rw [List.mem_map]
  constructor
  · rintro ⟨k, hk, rfl⟩
    have := List.mem_range.mp hk
    omega
  · intro h
    exact ⟨(x - a).toNat, List.mem_range.mpr (by omega), by omega⟩
end PA

set_option maxHeartbeats 4000000
set_option Elab.async false
set_option linter.all false
namespace PA
/-! threes: the number to the last one, and all three -/
def bas (l n : Int) : Int := if n ≤ l then n else num l (n - l - 1)
def three (l n : Int) : List Int := [bas l n, l + fst l (bas l n) + 1, l + fst l (bas l n) + 1 + bas l n]
theorem bas_rng {l n : Int} (hl : Can l) (h1 : 1 ≤ n) (h2 : n ≤ 3 * l) : 1 ≤ bas l n ∧ bas l n ≤ l := by
  unfold bas
  split
  · exact ⟨h1, by assumption⟩
  · have a := at_num hl (show 0 ≤ n - l - 1 by omega) (show n - l - 1 < 2 * l by omega)
    exact a.1
theorem three_in {l n : Int} (hl : Can l) (h1 : 1 ≤ n) (h2 : n ≤ 3 * l) : n ∈ three l n := by
  by_cases h : n ≤ l
  · have e : bas l n = n := if_pos h
    unfold three
    rw [e]
    exact List.mem_cons_self
  · have e : bas l n = num l (n - l - 1) := if_neg h
    have a := at_num hl (show 0 ≤ n - l - 1 by omega) (show n - l - 1 < 2 * l by omega)
    unfold three
    rw [e]
    rcases a.2 with z | z
    · exact List.mem_cons_of_mem _ (List.mem_cons.mpr (.inl (by omega)))
    · exact List.mem_cons_of_mem _ (List.mem_cons_of_mem _ (List.mem_cons.mpr (.inl (by omega))))
theorem three_shape {l n : Int} (hl : Can l) (h1 : 1 ≤ n) (h2 : n ≤ 3 * l) : 1 ≤ bas l n ∧ bas l n ≤ l ∧ l < l + fst l (bas l n) + 1 ∧ l + fst l (bas l n) + 1 < l + fst l (bas l n) + 1 + bas l n ∧ l + fst l (bas l n) + 1 + bas l n ≤ 3 * l := by
  have b := bas_rng hl h1 h2
  have f := fst_rng hl b.1 b.2
  omega
theorem bas_of {l n x : Int} (hl : Can l) (h1 : 1 ≤ n) (h2 : n ≤ 3 * l) (h : x ∈ three l n) : bas l x = bas l n ∧ 1 ≤ x ∧ x ≤ 3 * l := by
  have s := three_shape hl h1 h2
  unfold three at h
  generalize bas l n = m at *
  rcases List.mem_cons.mp h with e | h
  · subst e
    exact ⟨if_pos s.2.1, by omega, by omega⟩
  rcases List.mem_cons.mp h with e | h
  · refine ⟨?_, by omega, by omega⟩
    unfold bas
    rw [if_neg (by omega)]
    exact num_at hl ⟨⟨s.1, s.2.1⟩, .inl (by omega)⟩
  rcases List.mem_cons.mp h with e | h
  · refine ⟨?_, by omega, by omega⟩
    unfold bas
    rw [if_neg (by omega)]
    exact num_at hl ⟨⟨s.1, s.2.1⟩, .inr (by omega)⟩
  · cases h
theorem three_same {l n x : Int} (hl : Can l) (h1 : 1 ≤ n) (h2 : n ≤ 3 * l) (h : x ∈ three l n) : three l x = three l n := by
  unfold three
  rw [(bas_of hl h1 h2 h).1]
def every (l : Int) (k : Nat) : List Int := (List.range k).flatMap fun (i : Nat) => three l ((i : Int) + 1)
theorem every_succ (l : Int) (k : Nat) : every l (k + 1) = every l k ++ three l ((k : Int) + 1) := by
  unfold every
  rw [List.range_succ, List.flatMap_append, List.flatMap_cons, List.flatMap_nil, List.append_nil]
theorem every_in {l : Int} {k : Nat} {x : Int} (h : x ∈ every l k) : ∃ i : Nat, i < k ∧ x ∈ three l ((i : Int) + 1) := by
  obtain ⟨i, hi, hx⟩ := List.mem_flatMap.mp h
  exact ⟨i, List.mem_range.mp hi, hx⟩
theorem every_len (l : Int) : ∀ k : Nat, (every l k).length = 3 * k
  | 0 => rfl
  | k + 1 => by
    rw [every_succ, List.length_append, every_len l k]
    show 3 * k + 3 = _
    omega
theorem bas_low {l n : Int} (h : n ≤ l) : bas l n = n := if_pos h
theorem three_nodup {l n : Int} (hl : Can l) (h1 : 1 ≤ n) (h2 : n ≤ 3 * l) : (three l n).Nodup := by
  have s := three_shape hl h1 h2
  unfold three
  generalize bas l n = m at *
  refine List.nodup_cons.mpr ⟨fun h => ?_, List.nodup_cons.mpr ⟨fun h => ?_, List.nodup_cons.mpr ⟨fun h => (nomatch h), List.nodup_nil⟩⟩⟩
  · rcases List.mem_cons.mp h with e | h
    · omega
    rcases List.mem_cons.mp h with e | h
    · omega
    · cases h
  · rcases List.mem_cons.mp h with e | h
    · omega
    · cases h
theorem every_nodup {l : Int} (hl : Can l) : ∀ k : Nat, (k : Int) ≤ l → (every l k).Nodup
  | 0, _ => List.nodup_nil
  | k + 1, hk => by
    rw [every_succ]
    refine List.nodup_append.mpr ⟨every_nodup hl k (by omega), three_nodup hl (by omega) (by omega), fun a ha b hb e => ?_⟩
    obtain ⟨i, hi, hx⟩ := every_in ha
    have b1 := (bas_of hl (by omega) (by omega) hx).1
    have b2 := (bas_of hl (by omega) (by omega) hb).1
    rw [bas_low (n := (i : Int) + 1) (by omega)] at b1
    rw [bas_low (n := (k : Int) + 1) (by omega)] at b2
    rw [e] at b1
    omega
theorem every_all {l : Int} (hl : Can l) (x : Int) : x ∈ every l l.toNat ↔ 1 ≤ x ∧ x ≤ 3 * l := by
  have h1 := hl.1
  constructor
  · intro h
    obtain ⟨i, hi, hx⟩ := every_in h
    exact (bas_of hl (by omega) (by omega) hx).2
  · intro h
    have b := bas_rng hl h.1 h.2
    refine List.mem_flatMap.mpr ⟨(bas l x - 1).toNat, List.mem_range.mpr (by omega), ?_⟩
    have e : (((bas l x - 1).toNat : Nat) : Int) + 1 = bas l x := by omega
    rw [e]
    have e2 : three l (bas l x) = three l x := by
      unfold three
      rw [bas_low b.2]
    rw [e2]
    exact three_in hl h.1 h.2
end PA

set_option Elab.async false
set_option linter.all false
set_option maxRecDepth 100000
set_option maxHeartbeats 4000000
namespace PA
open PySem PySem.Spec PyProof.Rows L2 Evl
/-! ### the written table of small rows -/
def KTup (K : PySem.W.Frag) (a : Addr) (ns : List Int) : Prop := ∀ H, SqT K H a (ns.map V.int)
def Firsts (K : PySem.W.Frag) (d : Addr) : Prop := ∀ l : Int, l = 1 ∨ l = 4 ∨ l = 5 → ∃ a, KInt K d l (.ref a) ∧ KTup K a (small l)
theorem ktup_mk {K : PySem.W.Frag} {a : Addr} {dd : Option Addr} {its : Array Value} {n : Nat} {sl : Array (Option Value)} {ns : List Int} (h : K.lookup a = some ⟨.type "tuple", dd, .seq its n, sl⟩) (hz : its.size ≤ 100) (hv : Vals (ns.map V.int) its.toList) : KTup K a ns :=
  fun _ => .inr ⟨_, its, n, h, rfl, rfl, Nat.le_trans hz (by decide), hv⟩
theorem firsts_mk {K : PySem.W.Frag} {d a1 a4 a5 : Addr} {t1 t4 t5 : Tok} {n : Nat} {dd1 dd4 dd5 : Option Addr} {n1 n4 n5 : Nat} {s1 s4 s5 : Array (Option Value)} {u0 u1 u2 u3 u4 u5 u6 u7 u8 u9 : Tok}
    (h : K.lookup d = some ⟨.type "dict", none, .dict #[⟨1, .int 1 t1, .ref a1⟩, ⟨4, .int 4 t4, .ref a4⟩, ⟨5, .int 5 t5, .ref a5⟩] n, #[]⟩)
    (h1 : K.lookup a1 = some ⟨.type "tuple", dd1, .seq #[.int 1 u0] n1, s1⟩) (h4 : K.lookup a4 = some ⟨.type "tuple", dd4, .seq #[.int 1 u1, .int 5 u2, .int 3 u3, .int 4 u4] n4, s4⟩)
    (h5 : K.lookup a5 = some ⟨.type "tuple", dd5, .seq #[.int 8 u5, .int 3 u6, .int 1 u7, .int 6 u8, .int 2 u9] n5, s5⟩) : Firsts K d := by
  have keys : ∀ e ∈ (#[⟨1, .int 1 t1, .ref a1⟩, ⟨4, .int 4 t4, .ref a4⟩, ⟨5, .int 5 t5, .ref a5⟩] : Array DictEntry), ∃ k t, e.key = .int k t ∧ e.hash = hashInt k := by
    intro e he
    simp only [List.mem_toArray, List.mem_cons, List.not_mem_nil, or_false] at he
    rcases he with rfl | rfl | rfl
    · exact ⟨1, t1, rfl, show (1 : Int) = hashInt 1 by decide⟩
    · exact ⟨4, t4, rfl, show (4 : Int) = hashInt 4 by decide⟩
    · exact ⟨5, t5, rfl, show (5 : Int) = hashInt 5 by decide⟩
  intro l hl
  rcases hl with rfl | rfl | rfl
  · exact ⟨a1, ⟨_, n, .ref a1, h, keys, rfl, rfl⟩, ktup_mk h1 (show 1 ≤ 100 by decide) (.cons ⟨_, rfl⟩ .nil)⟩
  · exact ⟨a4, ⟨_, n, .ref a4, h, keys, rfl, rfl⟩, ktup_mk h4 (show 4 ≤ 100 by decide) (.cons ⟨_, rfl⟩ (.cons ⟨_, rfl⟩ (.cons ⟨_, rfl⟩ (.cons ⟨_, rfl⟩ .nil))))⟩
  · exact ⟨a5, ⟨_, n, .ref a5, h, keys, rfl, rfl⟩, ktup_mk h5 (show 5 ≤ 100 by decide) (.cons ⟨_, rfl⟩ (.cons ⟨_, rfl⟩ (.cons ⟨_, rfl⟩ (.cons ⟨_, rfl⟩ (.cons ⟨_, rfl⟩ .nil)))))⟩
def topS (i : Nat) : Stmt := PySem.Challenge.pw_pairsapart_k03_whole_threes.main.body.getD i (.Pass ⟨0, 0, 0, 0⟩)
abbrev s_is_number : Stmt := topS 7
abbrev N_is_number : List Str := ["thing"]
theorem sc_is_number : FnScope ["thing"] ["thing"] (defScope s_is_number) := ⟨rfl, rfl, rfl, by decide +kernel, rfl, by decide +kernel, by decide +kernel⟩
abbrev s_asked_last : Stmt := topS 8
abbrev N_asked_last : List Str := ["last"]
theorem sc_asked_last : FnScope ["last"] ["last"] (defScope s_asked_last) := ⟨rfl, rfl, rfl, by decide +kernel, rfl, by decide +kernel, by decide +kernel⟩
abbrev s_asked_row : Stmt := topS 9
abbrev N_asked_row : List Str := ["last"]
theorem sc_asked_row : FnScope ["last"] ["last"] (defScope s_asked_row) := ⟨rfl, rfl, rfl, by decide +kernel, rfl, by decide +kernel, by decide +kernel⟩
abbrev s_first_by_fours : Stmt := topS 10
abbrev N_first_by_fours : List Str := ["part", "number", "told"]
theorem sc_first_by_fours : FnScope ["part", "number", "told"] ["part", "number"] (defScope s_first_by_fours) := ⟨rfl, rfl, rfl, by decide +kernel, rfl, by decide +kernel, by decide +kernel⟩
abbrev s_first_by_ones : Stmt := topS 11
abbrev N_first_by_ones : List Str := ["part", "number", "told"]
theorem sc_first_by_ones : FnScope ["part", "number", "told"] ["part", "number"] (defScope s_first_by_ones) := ⟨rfl, rfl, rfl, by decide +kernel, rfl, by decide +kernel, by decide +kernel⟩
abbrev s_first_of : Stmt := topS 12
abbrev N_first_of : List Str := ["last", "number"]
theorem sc_first_of : FnScope ["last", "number"] ["last", "number"] (defScope s_first_of) := ⟨rfl, rfl, rfl, by decide +kernel, rfl, by decide +kernel, by decide +kernel⟩
abbrev s_both : Stmt := topS 13
abbrev N_both : List Str := ["last", "number", "first"]
theorem sc_both : FnScope ["last", "number", "first"] ["last", "number"] (defScope s_both) := ⟨rfl, rfl, rfl, by decide +kernel, rfl, by decide +kernel, by decide +kernel⟩
abbrev s_places_of : Stmt := topS 14
abbrev N_places_of : List Str := ["last", "number"]
theorem sc_places_of : FnScope ["last", "number"] ["last", "number"] (defScope s_places_of) := ⟨rfl, rfl, rfl, by decide +kernel, rfl, by decide +kernel, by decide +kernel⟩
abbrev s_at_place : Stmt := topS 15
abbrev N_at_place : List Str := ["last", "place", "part", "middle", "one", "some", "more", "number"]
theorem sc_at_place : FnScope ["last", "place", "part", "middle", "one", "some", "more", "number"] ["last", "place"] (defScope s_at_place) := ⟨rfl, rfl, rfl, by decide +kernel, rfl, by decide +kernel, by decide +kernel⟩
abbrev s_three_by : Stmt := topS 17
abbrev N_three_by : List Str := ["last", "number", "first"]
theorem sc_three_by : FnScope ["last", "number", "first"] ["last", "number"] (defScope s_three_by) := ⟨rfl, rfl, rfl, by decide +kernel, rfl, by decide +kernel, by decide +kernel⟩
abbrev s_three_of : Stmt := topS 18
abbrev N_three_of : List Str := ["last", "number"]
theorem sc_three_of : FnScope ["last", "number"] ["last", "number"] (defScope s_three_of) := ⟨rfl, rfl, rfl, by decide +kernel, rfl, by decide +kernel, by decide +kernel⟩
abbrev s__law_number : Stmt := topS 20
abbrev N__law_number : List Str := ["_law_cell", "_law_at", "_law_whole_here", "_law_mixed", "_law_more"]
theorem sc__law_number : FnScope ["_law_cell", "_law_at", "_law_whole_here", "_law_mixed", "_law_more"] ["_law_cell", "_law_at", "_law_whole_here"] (defScope s__law_number) := ⟨rfl, rfl, rfl, by decide +kernel, rfl, by decide +kernel, by decide +kernel⟩
abbrev s__law_last : Stmt := topS 21
abbrev N__law_last : List Str := ["_law_script", "_law_at", "_law_cells", "_law_number_here", "_law_found"]
theorem sc__law_last : FnScope ["_law_script", "_law_at", "_law_cells", "_law_number_here", "_law_found"] ["_law_script", "_law_at"] (defScope s__law_last) := ⟨rfl, rfl, rfl, by decide +kernel, rfl, by decide +kernel, by decide +kernel⟩
abbrev s__law_whole : Stmt := topS 22
abbrev N__law_whole : List Str := ["_law_number_here"]
theorem sc__law_whole : FnScope ["_law_number_here"] ["_law_number_here"] (defScope s__law_whole) := ⟨rfl, rfl, rfl, by decide +kernel, rfl, by decide +kernel, by decide +kernel⟩
abbrev s__law_three_right : Stmt := topS 23
abbrev N__law_three_right : List Str := ["_law_last_here", "_law_number_here", "_law_found", "_law_pair", "_law_kept", "_law_one", "_law_place"]
theorem sc__law_three_right : FnScope ["_law_last_here", "_law_number_here", "_law_found", "_law_pair", "_law_kept", "_law_one", "_law_place"] ["_law_last_here", "_law_number_here"] (defScope s__law_three_right) := ⟨rfl, rfl, rfl, by decide +kernel, rfl, by decide +kernel, by decide +kernel⟩
abbrev s_law : Stmt := topS 24
abbrev N_law : List Str := ["_law_script", "_law_whole_here", "_law_at", "_law_last_here", "_law_drawn", "_law_numbers", "_law_few", "_law_every", "_law_number_here"]
theorem sc_law : FnScope ["_law_script", "_law_whole_here", "_law_at", "_law_last_here", "_law_drawn", "_law_numbers", "_law_few", "_law_every", "_law_number_here"] ["_law_script"] (defScope s_law) := ⟨rfl, rfl, rfl, by decide +kernel, rfl, by decide +kernel, by decide +kernel⟩
/-- what the top has left -/
structure Tx (K : PySem.W.Frag) (mg : Str → Option Value) where
  a_is_number : Addr
  d_is_number : FuncData
  F_is_number : Fun K "is_number" "is_number" s_is_number a_is_number d_is_number
  b_is_number : Binds K d_is_number ["thing"] []
  g_is_number : mg "is_number" = some (.ref a_is_number)
  a_asked_last : Addr
  d_asked_last : FuncData
  F_asked_last : Fun K "asked_last" "asked_last" s_asked_last a_asked_last d_asked_last
  b_asked_last : Binds K d_asked_last ["last"] []
  g_asked_last : mg "asked_last" = some (.ref a_asked_last)
  a_asked_row : Addr
  d_asked_row : FuncData
  F_asked_row : Fun K "asked_row" "asked_row" s_asked_row a_asked_row d_asked_row
  b_asked_row : Binds K d_asked_row ["last"] []
  g_asked_row : mg "asked_row" = some (.ref a_asked_row)
  a_first_by_fours : Addr
  d_first_by_fours : FuncData
  F_first_by_fours : Fun K "first_by_fours" "first_by_fours" s_first_by_fours a_first_by_fours d_first_by_fours
  b_first_by_fours : Binds K d_first_by_fours ["part", "number"] []
  g_first_by_fours : mg "first_by_fours" = some (.ref a_first_by_fours)
  a_first_by_ones : Addr
  d_first_by_ones : FuncData
  F_first_by_ones : Fun K "first_by_ones" "first_by_ones" s_first_by_ones a_first_by_ones d_first_by_ones
  b_first_by_ones : Binds K d_first_by_ones ["part", "number"] []
  g_first_by_ones : mg "first_by_ones" = some (.ref a_first_by_ones)
  a_first_of : Addr
  d_first_of : FuncData
  F_first_of : Fun K "first_of" "first_of" s_first_of a_first_of d_first_of
  b_first_of : Binds K d_first_of ["last", "number"] []
  g_first_of : mg "first_of" = some (.ref a_first_of)
  a_both : Addr
  d_both : FuncData
  F_both : Fun K "both" "both" s_both a_both d_both
  b_both : Binds K d_both ["last", "number"] []
  g_both : mg "both" = some (.ref a_both)
  a_places_of : Addr
  d_places_of : FuncData
  F_places_of : Fun K "places_of" "places_of" s_places_of a_places_of d_places_of
  b_places_of : Binds K d_places_of ["last", "number"] []
  g_places_of : mg "places_of" = some (.ref a_places_of)
  a_at_place : Addr
  d_at_place : FuncData
  F_at_place : Fun K "at_place" "at_place" s_at_place a_at_place d_at_place
  b_at_place : Binds K d_at_place ["last", "place"] []
  g_at_place : mg "at_place" = some (.ref a_at_place)
  a_three_by : Addr
  d_three_by : FuncData
  F_three_by : Fun K "three_by" "three_by" s_three_by a_three_by d_three_by
  b_three_by : Binds K d_three_by ["last", "number"] []
  g_three_by : mg "three_by" = some (.ref a_three_by)
  a_three_of : Addr
  d_three_of : FuncData
  F_three_of : Fun K "three_of" "three_of" s_three_of a_three_of d_three_of
  b_three_of : Binds K d_three_of ["last", "number"] []
  g_three_of : mg "three_of" = some (.ref a_three_of)
  a__law_number : Addr
  d__law_number : FuncData
  F__law_number : Fun K "_law_number" "_law_number" s__law_number a__law_number d__law_number
  b__law_number : Binds K d__law_number ["_law_cell", "_law_at", "_law_whole_here"] []
  g__law_number : mg "_law_number" = some (.ref a__law_number)
  a__law_last : Addr
  d__law_last : FuncData
  F__law_last : Fun K "_law_last" "_law_last" s__law_last a__law_last d__law_last
  b__law_last : Binds K d__law_last ["_law_script", "_law_at"] []
  g__law_last : mg "_law_last" = some (.ref a__law_last)
  a__law_whole : Addr
  d__law_whole : FuncData
  F__law_whole : Fun K "_law_whole" "_law_whole" s__law_whole a__law_whole d__law_whole
  b__law_whole : Binds K d__law_whole ["_law_number_here"] []
  g__law_whole : mg "_law_whole" = some (.ref a__law_whole)
  a__law_three_right : Addr
  d__law_three_right : FuncData
  F__law_three_right : Fun K "_law_three_right" "_law_three_right" s__law_three_right a__law_three_right d__law_three_right
  b__law_three_right : Binds K d__law_three_right ["_law_last_here", "_law_number_here"] []
  g__law_three_right : mg "_law_three_right" = some (.ref a__law_three_right)
  a_law : Addr
  d_law : FuncData
  F_law : Fun K "law" "law" s_law a_law d_law
  b_law : Binds K d_law ["_law_script"] []
  g_law : mg "law" = some (.ref a_law)
  c_PairError : Addr
  g_PairError : mg "PairError" = some (.ref c_PairError)
  x_PairError : ExcT K c_PairError
  c_BadLast : Addr
  g_BadLast : mg "BadLast" = some (.ref c_BadLast)
  x_BadLast : ExcT K c_BadLast
  c_BadNumber : Addr
  g_BadNumber : mg "BadNumber" = some (.ref c_BadNumber)
  x_BadNumber : ExcT K c_BadNumber
  c_NoRow : Addr
  g_NoRow : mg "NoRow" = some (.ref c_NoRow)
  x_NoRow : ExcT K c_NoRow
  c_FIRSTS : Addr
  g_FIRSTS : mg "FIRSTS" = some (.ref c_FIRSTS)
  k_FIRSTS : Firsts K c_FIRSTS
  m_ValueError : mg "ValueError" = none
  m_abs : mg "abs" = none
  m_all : mg "all" = none
  m_bool : mg "bool" = none
  m_int : mg "int" = none
  m_isinstance : mg "isinstance" = none
  m_len : mg "len" = none
  m_list : mg "list" = none
  m_min : mg "min" = none
  m_range : mg "range" = none
  m_sorted : mg "sorted" = none
  m_sum : mg "sum" = none
end PA

set_option Elab.async false
set_option linter.all false
set_option maxRecDepth 100000
set_option maxHeartbeats 4000000
namespace PA
open PySem PySem.Spec PyProof.Rows L2 Evl
/-- the walk through an expression -/
local macro_rules | `(tactic| walk_at "ev") => `(tactic| repeat' (first | (with_reducible exact ev_c) | (with_reducible refine' ev_var ?_) | (show _ = some (some _); rfl) | (with_reducible exact ea_nil) | (with_reducible refine' ea_cons ?_ ?_) | (with_reducible refine' ev_abs ?_) | (with_reducible refine' ev_op ?_ ?_ ?_) | (with_reducible exact rv_I0) | (exact rv_mulL (by decide)) | (exact rv_mulR (by decide)) | (exact rv_div (by decide)) | (exact rv_mod (by decide)) | (exact rv_pow (by decide)) | (with_reducible refine' ev_un ?_ ?_) | (with_reducible exact ru_neg) | (exact rv_eq rfl) | (exact rv_ne rfl) | (with_reducible refine' et_test ?_) | (with_reducible refine' et_B ?_) | (exact ev_c) | (exact rv_I0) | (exact ea_nil) | (refine' ea_cons ?_ ?_)))
section
variable {P : Program} {w : World} {K : PySem.W.Frag} {mg : Str → Option Value} {base : Heap}
/-! ### is_number -/
def sp_is_number (K : PySem.W.Frag) : Sp := fun vs H Q _ => ∃ v b, vs = [v] ∧ Num K H v b ∧ RetV (.bl b) H Q
theorem kit_num {K : PySem.W.Frag} {T : String} {b : Bool} (h : isNumT T = some b) : ∃ b1, PySem.W.kitOne K (.type T) (.type "int") = some b1 ∧ (b1 = false → b = false) ∧ (b1 = true → PySem.W.kitOne K (.type T) (.type "bool") = some (!b)) := by
  unfold isNumT at h
  split at h
  · rename_i e
    refine ⟨true, kit_ty e, (fun z => nomatch z), fun _ => kit_ty ?_⟩
    cases q : kitB T "bool" with
    | none => rw [q] at h; cases h
    | some c =>
      rw [q] at h
      have h2 : (!c) = b := Option.some.inj h
      rw [← h2, Bool.not_not]
  · rename_i e
    exact ⟨false, kit_ty e, fun _ => (Option.some.inj h).symm, fun z => nomatch z⟩
  · cases h
theorem ok_is_number (T : Tx K mg) : FnOk P w K mg base CX0 1 T.a_is_number T.d_is_number ["thing"] (sp_is_number K) := by
  refine T.F_is_number.ok sc_is_number (fun vs H Q E h => ?_) (fun cdv A outer s H vs Q E hr h => ?_)
  · obtain ⟨v, b, rfl, _⟩ := h
    rfl
  · obtain ⟨v, b, rfl, ⟨ty, ht, hn⟩, k⟩ := h
    refine ⟨_, (pss_one (ps_ret (pe_and (pe_callB (r := rIsi K) call_isi (by rfl) T.m_isinstance bt_isinstance (pa_cons (pv 0) (pa_cons (pe_bltn (v := .ty "int") (by rfl) T.m_int bt_int rfl) pa_nil))) (pe_one (pe_not (pe_callB (r := rIsi K) call_isi (by rfl) T.m_isinstance bt_isinstance (pa_cons (pv 0) (pa_cons (pe_bltn (v := .ty "bool") (by rfl) T.m_bool bt_bool rfl) pa_nil)))))))), ?_⟩
    obtain ⟨b1, h1, h2, h3⟩ := kit_num (K := K) hn
    have e : (b1 && !(!b)) = b := by
      cases b1 with
      | true => simp
      | false => rw [h2 rfl]; rfl
    refine s_ret (v := .bl b) (ev_is (v := .bl (b1 && !(!b))) (ev_andV (ev_isi (ea_cons (ev_var rfl) (ea_cons ev_c ea_nil)) (.ty "int") ht h1) fun z => ev_notV (ev_isi (ea_cons (ev_var rfl) (ea_cons ev_c ea_nil)) (.ty "bool") ht (h3 z))) (by rw [e])) k
theorem v_is_number {v : V} {b : Bool} {H : Hp} (h : Num K H v b) : SpV (sp_is_number K) [v] H (.bl b) := fun _ e _ q _ => ⟨v, b, rfl, h.ex e, q⟩
/-! ### asked_last -/
/-- no whole number, or one of which B holds -/
def BadV (K : PySem.W.Frag) (H : Hp) (v : V) (B : Int → Prop) : Prop := Num K H v false ∨ ∃ n, v = .int n ∧ B n
theorem BadV.ex {H H' : Hp} {v : V} {B : Int → Prop} (e : Ex H H') (h : BadV K H v B) : BadV K H' v B := by
  rcases h with h | h
  · exact .inl (h.ex e)
  · exact .inr h
/-- an error of the class at C leaves -/
def Err (C : Addr) (H : Hp) (E : XK) : Prop := ∀ H', Ex H H' → E (.ref C) none H'
theorem Err.ex {C : Addr} {H H' : Hp} {E : XK} (e : Ex H H') (h : Err C H E) : Err C H' E := fun H2 e2 => h H2 (e.trans e2)
def sp_asked_last (T : Tx K mg) : Sp := fun vs H Q E => ∃ v, vs = [v] ∧ ((∃ n, v = .int n ∧ 1 ≤ n ∧ RetV .non H Q) ∨ (BadV K H v (· < 1) ∧ Err T.c_BadLast H E))
theorem ok_asked_last (T : Tx K mg) : FnOk P w K mg base (L2.CX P w) 2 T.a_asked_last T.d_asked_last ["last"] (sp_asked_last T) := by
  refine T.F_asked_last.okX sc_asked_last (fun vs H Q E h => ?_) (fun cdv A outer s H vs Q E hr h => ?_)
  · obtain ⟨v, rfl, _⟩ := h
    rfl
  · obtain ⟨v, rfl, h⟩ := h
    refine ⟨_, (pss_one (ps_if (PW.pt (pw_or (pt_not (pt_val (pe_call (ok_is_number T) (hr.mono (by decide)) (by rfl) T.g_is_number T.F_is_number.kp T.b_is_number .nil pass0 (pa_cons (pv 0) pa_nil)))) (pw_or1 (pt_cmpR op_lt (pv 0) pe_int (nomark _))))) (pss_one (ps_raise rfl (takes_of rfl rfl rfl rfl) (pmk_own PySem.F.excBase_ValueError T.x_BadLast.ex T.g_BadLast T.x_BadLast.kp (raises_own T.x_BadLast.sb T.x_BadLast.ty) (by rfl)))) pss_nil)), ?_⟩
    rcases h with ⟨n, rfl, hn, k⟩ | ⟨hb, k⟩
    · refine s_when (b := false) (et_is (et_or (et_not (et_B (ev_call (ea_cons (ev_var rfl) ea_nil) (v_is_number (Num.int n))))) fun _ => et_test (ev_op (ev_var rfl) ev_c rv_I0)) ?_) (fun z => nomatch z) fun _ H1 e1 => k H1 e1
      simp only [Bool.not_true, Bool.false_or, decide_eq_false_iff_not]
      omega
    · rcases hb with hb | ⟨n, rfl, hn⟩
      · exact s_when (b := true) (et_is (a := !false || true) (et_or (et_not (et_B (ev_call (ea_cons (ev_var rfl) ea_nil) (v_is_number hb)))) fun z => nomatch z) rfl) (fun _ H1 e1 => k H1 e1) (fun z => nomatch z)
      · refine s_when (b := true) (et_is (et_or (et_not (et_B (ev_call (ea_cons (ev_var rfl) ea_nil) (v_is_number (Num.int n))))) fun _ => et_test (ev_op (ev_var rfl) ev_c rv_I0)) ?_) (fun _ H1 e1 => k H1 e1) (fun z => nomatch z)
        simp only [Bool.not_true, Bool.false_or, decide_eq_true_eq]
        exact hn
theorem v_asked_last {T : Tx K mg} {n : Int} {H : Hp} (h : 1 ≤ n) : SpV (sp_asked_last T) [.int n] H .non := fun _ _ _ q _ => ⟨_, rfl, .inl ⟨n, rfl, h, q⟩⟩
/-! ### asked_row -/
/-- what is wrong with a last number -/
def LastX (T : Tx K mg) (v : V) (H : Hp) (E : XK) : Prop := (BadV K H v (· < 1) ∧ Err T.c_BadLast H E) ∨ ∃ n, v = .int n ∧ 1 ≤ n ∧ 1 < n % 4 ∧ Err T.c_NoRow H E
theorem LastX.ex {T : Tx K mg} {v : V} {H H' : Hp} {E : XK} (e : Ex H H') (h : LastX T v H E) : LastX T v H' E := by
  rcases h with ⟨a, b⟩ | ⟨n, a, b, c, d⟩
  · exact .inl ⟨a.ex e, b.ex e⟩
  · exact .inr ⟨n, a, b, c, d.ex e⟩
def sp_asked_row (T : Tx K mg) : Sp := fun vs H Q E => ∃ v, vs = [v] ∧ ((∃ n, v = .int n ∧ Can n ∧ RetV .non H Q) ∨ LastX T v H E)
theorem ok_asked_row (T : Tx K mg) : FnOk P w K mg base (L2.CX P w) 3 T.a_asked_row T.d_asked_row ["last"] (sp_asked_row T) := by
  refine T.F_asked_row.okX sc_asked_row (fun vs H Q E h => ?_) (fun cdv A outer s H vs Q E hr h => ?_)
  · obtain ⟨v, rfl, _⟩ := h
    rfl
  · obtain ⟨v, rfl, h⟩ := h
    refine ⟨_, (pss_cons (ps_expr (pe_call (ok_asked_last T) (hr.mono (by decide)) (by rfl) T.g_asked_last T.F_asked_last.kp T.b_asked_last .nil (passes_call (takes_of rfl rfl rfl rfl) (fun _ _ _ _ h => h)) (pa_cons (pv 0) pa_nil)))
      (pss_one (ps_if (pt_cmpR op_gt (pe_op op_mod (pv 0) pe_int) pe_int (nomark _)) (pss_one (ps_raise rfl (takes_of rfl rfl rfl rfl) (pmk_own PySem.F.excBase_ValueError T.x_NoRow.ex T.g_NoRow T.x_NoRow.kp (raises_own T.x_NoRow.sb T.x_NoRow.ty) (by rfl)))) pss_nil))), ?_⟩
    rcases h with ⟨n, rfl, hn, k⟩ | ⟨hb, k⟩ | ⟨n, rfl, h1, h4, k⟩
    · refine q_drop (ev_call (ea_cons (ev_var rfl) ea_nil) (v_asked_last (T := T) hn.1)) fun H1 e1 => ?_
      refine s_when (b := false) (et_is (b := false) (by walk_at "ev") ?_) (fun z => nomatch z) fun _ H2 e2 => k H2 (e1.trans e2)
      have := hn.2
      simp only [decide_eq_false_iff_not]
      omega
    · exact ⟨_, rfl, _, rfl, .inr ⟨hb, k⟩⟩
    · refine q_drop (ev_call (ea_cons (ev_var rfl) ea_nil) (v_asked_last (T := T) h1)) fun H1 e1 => ?_
      refine s_when (b := true) (et_is (b := true) (by walk_at "ev") ?_) (fun _ H2 e2 => k H2 (e1.trans e2)) (fun z => nomatch z)
      simp only [decide_eq_true_eq]
      exact h4
/-! ### first_by_fours, first_by_ones -/
def sp_first_by_fours : Sp := fun vs H Q _ => ∃ p n : Int, vs = [.int p, .int n] ∧ 2 ≤ p ∧ RetV (.int (f4 p n)) H Q
def tab4 (p : Int) : List (Key × V) := mergeK [] [(Sum.inl (4 * p - 1), .int (2 * p + 1)), (Sum.inl 1, .int p), (Sum.inl (2 * p + 1), .int (p - 1)), (Sum.inl (2 * p - 1), .int (2 * p))]
def tab1 (p : Int) : List (Key × V) := mergeK [] [(Sum.inl (4 * p + 1), .int (2 * p + 1)), (Sum.inl 1, .int (p + 1)), (Sum.inl (2 * p - 1), .int (2 * p + 2))]
theorem key_ne {a b : Int} (h : a ≠ b) : ¬ (Sum.inl a : Key) = Sum.inl b := fun z => h (Sum.inl.inj z)
theorem tab4_val (p n : Int) (hp : 2 ≤ p) (ho : n % 2 ≠ 0) : (valV (tab4 p) (Sum.inl n) = some (.int (f4 p n))) ∨ (valV (tab4 p) (Sum.inl n) = none ∧ f4 p n = if 2 * p + 1 < n then (4 * p - 1 - n) / 2 else p + 1 + (2 * p - 1 - n) / 2) := by
  have e : valV (tab4 p) (Sum.inl n) = if (Sum.inl n : Key) = Sum.inl (2 * p - 1) then some (.int (2 * p)) else if (Sum.inl n : Key) = Sum.inl (2 * p + 1) then some (.int (p - 1)) else if (Sum.inl n : Key) = Sum.inl 1 then some (.int p) else if (Sum.inl n : Key) = Sum.inl (4 * p - 1) then some (.int (2 * p + 1)) else none := by
    show valV (putK (putK (putK (putK [] _ _) _ _) _ _) _ _) _ = _
    rw [valV_put, valV_put, valV_put, valV_put]
    rfl
  rw [e]
  unfold f4
  rw [if_neg ho]
  by_cases b : n = 4 * p - 1
  · rw [if_pos b, if_neg (key_ne (by omega)), if_neg (key_ne (by omega)), if_neg (key_ne (by omega)), if_pos (by rw [b])]
    exact .inl rfl
  rw [if_neg b]
  by_cases c : n = 1
  · rw [if_pos c, if_neg (key_ne (by omega)), if_neg (key_ne (by omega)), if_pos (by rw [c])]
    exact .inl rfl
  rw [if_neg c]
  by_cases d : n = 2 * p + 1
  · rw [if_pos d, if_neg (key_ne (by omega)), if_pos (by rw [d])]
    exact .inl rfl
  rw [if_neg d]
  by_cases f : n = 2 * p - 1
  · rw [if_pos f, if_pos (by rw [f])]
    exact .inl rfl
  rw [if_neg f, if_neg (key_ne f), if_neg (key_ne d), if_neg (key_ne c), if_neg (key_ne b)]
  exact .inr ⟨rfl, rfl⟩
theorem tab1_val (p n : Int) (hp : 2 ≤ p) (ho : n % 2 ≠ 0) : (valV (tab1 p) (Sum.inl n) = some (.int (f1 p n))) ∨ (valV (tab1 p) (Sum.inl n) = none ∧ f1 p n = if 2 * p < n then (4 * p + 1 - n) / 2 else p + 2 + (2 * p - 1 - n) / 2) := by
  have e : valV (tab1 p) (Sum.inl n) = if (Sum.inl n : Key) = Sum.inl (2 * p - 1) then some (.int (2 * p + 2)) else if (Sum.inl n : Key) = Sum.inl 1 then some (.int (p + 1)) else if (Sum.inl n : Key) = Sum.inl (4 * p + 1) then some (.int (2 * p + 1)) else none := by
    show valV (putK (putK (putK [] _ _) _ _) _ _) _ = _
    rw [valV_put, valV_put, valV_put]
    rfl
  rw [e]
  unfold f1
  rw [if_neg ho]
  by_cases b : n = 4 * p + 1
  · rw [if_pos b, if_neg (key_ne (by omega)), if_neg (key_ne (by omega)), if_pos (by rw [b])]
    exact .inl rfl
  rw [if_neg b]
  by_cases c : n = 1
  · rw [if_pos c, if_neg (key_ne (by omega)), if_pos (by rw [c])]
    exact .inl rfl
  rw [if_neg c]
  by_cases f : n = 2 * p - 1
  · rw [if_pos f, if_pos (by rw [f])]
    exact .inl rfl
  rw [if_neg f, if_neg (key_ne f), if_neg (key_ne c), if_neg (key_ne b)]
  exact .inr ⟨rfl, rfl⟩
theorem ok_first_by_fours (T : Tx K mg) : FnOk P w K mg base CX0 1 T.a_first_by_fours T.d_first_by_fours ["part", "number"] sp_first_by_fours := by
  refine T.F_first_by_fours.ok sc_first_by_fours (fun vs H Q E h => ?_) (fun cdv A outer s H vs Q E hr h => ?_)
  · obtain ⟨p, n, rfl, _⟩ := h
    rfl
  · obtain ⟨p, n, rfl, hp, k⟩ := h
    have hu := hu_of hr
    refine ⟨_, (pss_cons (ps_if (pt_cmpR op_eq (pe_op op_mod (pv 1) pe_int) pe_int (nomark _)) (pss_one (ps_ret (pe_op op_sub (pe_op op_mul pe_int (pv 0)) (pe_op op_fdiv (pv 1) pe_int)))) pss_nil)
      (pss_cons (ps_set (i := 2) sc_first_by_fours.nd rfl (.inl rfl) (pe_disp (pps_cons (pe_op op_sub (pe_op op_mul pe_int (pv 0)) pe_int) (pe_op op_add (pe_op op_mul pe_int (pv 0)) pe_int) (pps_cons pe_int (pv 0) (pps_cons (pe_op op_add (pe_op op_mul pe_int (pv 0)) pe_int) (pe_op op_sub (pv 0) pe_int) (pps_cons (pe_op op_sub (pe_op op_mul pe_int (pv 0)) pe_int) (pe_op op_mul pe_int (pv 0)) pps_nil)))) (by rfl) (by rfl) (fun z => by cases z) (by decide)))
      (pss_cons (ps_if (pt_cmp (pc_din hu (pv 1) (pv 2))) (pss_one (ps_ret (pe_dget hu (pv 2) (pv 1) (fun _ _ => rfl)))) pss_nil)
      (pss_cons (ps_if (pt_cmpR op_gt (pv 1) (pe_op op_add (pe_op op_mul pe_int (pv 0)) pe_int) (nomark _)) (pss_one (ps_ret (pe_op op_fdiv (pe_op op_sub (pe_op op_sub (pe_op op_mul pe_int (pv 0)) pe_int) (pv 1)) pe_int))) pss_nil)
      (pss_one (ps_ret (pe_op op_add (pe_op op_add (pv 0) pe_int) (pe_op op_fdiv (pe_op op_sub (pe_op op_sub (pe_op op_mul pe_int (pv 0)) pe_int) (pv 1)) pe_int)))))))), ?_⟩
    refine q_when (by walk_at "ev") (fun z H1 e1 => ?_) fun z H1 e1 => ?_
    · have z0 : n % 2 = 0 := V.int.inj (of_decide_eq_true z)
      have e : f4 p n = 6 * p - n / 2 := if_pos z0
      rw [e] at k
      exact s_ret (by walk_at "ev") fun H2 e2 => k H2 (e1.trans e2)
    · have ho : n % 2 ≠ 0 := fun y => (of_decide_eq_false z) (by rw [y])
      refine q_asgD (kvs := [(Sum.inl (4 * p - 1), .int (2 * p + 1)), (Sum.inl 1, .int p), (Sum.inl (2 * p + 1), .int (p - 1)), (Sum.inl (2 * p - 1), .int (2 * p))]) (ep_cons (by walk_at "ev") (by walk_at "ev") (ep_cons (by walk_at "ev") (by walk_at "ev") (ep_cons (by walk_at "ev") (by walk_at "ev") (ep_cons (by walk_at "ev") (by walk_at "ev") ep_nil)))) (show 4 ≤ 15 by decide) fun d H2 hd e2 h2 => ?_
      have h2 : H2 d = some (.dK (tab4 p)) := h2
      rcases tab4_val p n hp ho with hv | ⟨hv, ef⟩
      · refine q_when (b := true) (et_is (et_din h2 (ev_var rfl) (ev_var rfl)) (by rw [hv] <;> rfl)) (fun _ H3 e3 => s_ret (ev_dget (e3 _ _ h2) (ev_var rfl) (ev_var rfl) hv) fun H4 e4 => k H4 (((e1.trans e2).trans e3).trans e4)) (fun z => nomatch z)
      · refine q_when (b := false) (et_is (et_din h2 (ev_var rfl) (ev_var rfl)) (by rw [hv] <;> rfl)) (fun z => nomatch z) fun _ H3 e3 => ?_
        rw [ef] at k
        refine q_when (by walk_at "ev") (fun z H4 e4 => ?_) fun z H4 e4 => ?_
        · rw [if_pos (of_decide_eq_true z)] at k
          exact s_ret (by walk_at "ev") fun H5 e5 => k H5 ((((e1.trans e2).trans e3).trans e4).trans e5)
        · rw [if_neg (of_decide_eq_false z)] at k
          exact s_ret (by walk_at "ev") fun H5 e5 => k H5 ((((e1.trans e2).trans e3).trans e4).trans e5)
theorem v_first_by_fours {p n : Int} {H : Hp} (h : 2 ≤ p) : SpV sp_first_by_fours [.int p, .int n] H (.int (f4 p n)) := fun _ _ _ q _ => ⟨p, n, rfl, h, q⟩
def sp_first_by_ones : Sp := fun vs H Q _ => ∃ p n : Int, vs = [.int p, .int n] ∧ 2 ≤ p ∧ RetV (.int (f1 p n)) H Q
theorem ok_first_by_ones (T : Tx K mg) : FnOk P w K mg base CX0 1 T.a_first_by_ones T.d_first_by_ones ["part", "number"] sp_first_by_ones := by
  refine T.F_first_by_ones.ok sc_first_by_ones (fun vs H Q E h => ?_) (fun cdv A outer s H vs Q E hr h => ?_)
  · obtain ⟨p, n, rfl, _⟩ := h
    rfl
  · obtain ⟨p, n, rfl, hp, k⟩ := h
    have hu := hu_of hr
    refine ⟨_, (pss_cons (ps_if (pt_cmpR op_eq (pe_op op_mod (pv 1) pe_int) pe_int (nomark _)) (pss_one (ps_ret (pe_op op_sub (pe_op op_add (pe_op op_mul pe_int (pv 0)) pe_int) (pe_op op_fdiv (pv 1) pe_int)))) pss_nil)
      (pss_cons (ps_set (i := 2) sc_first_by_ones.nd rfl (.inl rfl) (pe_disp (pps_cons (pe_op op_add (pe_op op_mul pe_int (pv 0)) pe_int) (pe_op op_add (pe_op op_mul pe_int (pv 0)) pe_int) (pps_cons pe_int (pe_op op_add (pv 0) pe_int) (pps_cons (pe_op op_sub (pe_op op_mul pe_int (pv 0)) pe_int) (pe_op op_add (pe_op op_mul pe_int (pv 0)) pe_int) pps_nil))) (by rfl) (by rfl) (fun z => by cases z) (by decide)))
      (pss_cons (ps_if (pt_cmp (pc_din hu (pv 1) (pv 2))) (pss_one (ps_ret (pe_dget hu (pv 2) (pv 1) (fun _ _ => rfl)))) pss_nil)
      (pss_cons (ps_if (pt_cmpR op_gt (pv 1) (pe_op op_mul pe_int (pv 0)) (nomark _)) (pss_one (ps_ret (pe_op op_fdiv (pe_op op_sub (pe_op op_add (pe_op op_mul pe_int (pv 0)) pe_int) (pv 1)) pe_int))) pss_nil)
      (pss_one (ps_ret (pe_op op_add (pe_op op_add (pv 0) pe_int) (pe_op op_fdiv (pe_op op_sub (pe_op op_sub (pe_op op_mul pe_int (pv 0)) pe_int) (pv 1)) pe_int)))))))), ?_⟩
    refine q_when (by walk_at "ev") (fun z H1 e1 => ?_) fun z H1 e1 => ?_
    · have z0 : n % 2 = 0 := V.int.inj (of_decide_eq_true z)
      have e : f1 p n = 6 * p + 2 - n / 2 := if_pos z0
      rw [e] at k
      exact s_ret (by walk_at "ev") fun H2 e2 => k H2 (e1.trans e2)
    · have ho : n % 2 ≠ 0 := fun y => (of_decide_eq_false z) (by rw [y])
      refine q_asgD (kvs := [(Sum.inl (4 * p + 1), .int (2 * p + 1)), (Sum.inl 1, .int (p + 1)), (Sum.inl (2 * p - 1), .int (2 * p + 2))]) (ep_cons (by walk_at "ev") (by walk_at "ev") (ep_cons (by walk_at "ev") (by walk_at "ev") (ep_cons (by walk_at "ev") (by walk_at "ev") ep_nil))) (show 3 ≤ 15 by decide) fun d H2 hd e2 h2 => ?_
      have h2 : H2 d = some (.dK (tab1 p)) := h2
      rcases tab1_val p n hp ho with hv | ⟨hv, ef⟩
      · refine q_when (b := true) (et_is (et_din h2 (ev_var rfl) (ev_var rfl)) (by rw [hv] <;> rfl)) (fun _ H3 e3 => s_ret (ev_dget (e3 _ _ h2) (ev_var rfl) (ev_var rfl) hv) fun H4 e4 => k H4 (((e1.trans e2).trans e3).trans e4)) (fun z => nomatch z)
      · refine q_when (b := false) (et_is (et_din h2 (ev_var rfl) (ev_var rfl)) (by rw [hv] <;> rfl)) (fun z => nomatch z) fun _ H3 e3 => ?_
        rw [ef] at k
        refine q_when (by walk_at "ev") (fun z H4 e4 => ?_) fun z H4 e4 => ?_
        · rw [if_pos (of_decide_eq_true z)] at k
          exact s_ret (by walk_at "ev") fun H5 e5 => k H5 ((((e1.trans e2).trans e3).trans e4).trans e5)
        · rw [if_neg (of_decide_eq_false z)] at k
          exact s_ret (by walk_at "ev") fun H5 e5 => k H5 ((((e1.trans e2).trans e3).trans e4).trans e5)
theorem v_first_by_ones {p n : Int} {H : Hp} (h : 2 ≤ p) : SpV sp_first_by_ones [.int p, .int n] H (.int (f1 p n)) := fun _ _ _ q _ => ⟨p, n, rfl, h, q⟩
/-! ### first_of, both -/
def sp_first_of : Sp := fun vs H Q _ => ∃ l n : Int, vs = [.int l, .int n] ∧ Can l ∧ 1 ≤ n ∧ n ≤ l ∧ RetV (.int (fst l n)) H Q
theorem small_at {l n : Int} (hl : l = 1 ∨ l = 4 ∨ l = 5) (h1 : 1 ≤ n) (h2 : n ≤ l) : atI ((small l).map V.int) (n - 1) = some (.int ((small l).getD (n - 1).toNat 0)) := by
  have hlen : (n - 1).toNat < (small l).length := by
    rcases hl with rfl | rfl | rfl
    · show _ < 1; omega
    · show _ < 4; omega
    · show _ < 5; omega
  refine at_of (j := (n - 1).toNat) (by omega) ?_
  rw [List.getElem?_map, List.getElem?_eq_getElem hlen, List.getD_eq_getElem?_getD, List.getElem?_eq_getElem hlen]
  rfl
theorem ok_first_of (T : Tx K mg) : FnOk P w K mg base CX0 2 T.a_first_of T.d_first_of ["last", "number"] sp_first_of := by
  refine T.F_first_of.ok sc_first_of (fun vs H Q E h => ?_) (fun cdv A outer s H vs Q E hr h => ?_)
  · obtain ⟨l, n, rfl, _⟩ := h
    rfl
  · obtain ⟨l, n, rfl, hl, h1, h2, k⟩ := h
    refine ⟨_, (pss_cons (ps_if (pt_cmpR op_lt (pv 0) pe_int (nomark _)) (pss_one (ps_ret (pe_op op_sub (pe_ix (r := rIxT K) ix_tup (pe_ix (r := rIxI K) ix_kint (pe_glob (v := .ref T.c_FIRSTS) (by rfl) T.g_FIRSTS rfl) (pv 0) (fun _ _ => rfl)) (pe_op op_sub (pv 1) pe_int) (fun _ _ => rfl)) pe_int))) pss_nil)
      (pss_cons (ps_if (pt_cmpR op_eq (pe_op op_mod (pv 0) pe_int) pe_int (nomark _)) (pss_one (ps_ret (pe_op op_sub (pe_call (ok_first_by_fours T) (hr.mono (by decide)) (by rfl) T.g_first_by_fours T.F_first_by_fours.kp T.b_first_by_fours .nil pass0 (pa_cons (pe_op op_fdiv (pv 0) pe_int) (pa_cons (pv 1) pa_nil))) pe_int))) pss_nil)
      (pss_one (ps_ret (pe_op op_sub (pe_call (ok_first_by_ones T) (hr.mono (by decide)) (by rfl) T.g_first_by_ones T.F_first_by_ones.kp T.b_first_by_ones .nil pass0 (pa_cons (pe_op op_fdiv (pv 0) pe_int) (pa_cons (pv 1) pa_nil))) pe_int))))), ?_⟩
    unfold fst at k
    refine q_when (by walk_at "ev") (fun z H1 e1 => ?_) fun z H1 e1 => ?_
    · have z0 : l < 6 := of_decide_eq_true z
      rw [if_pos z0] at k
      have hs : l = 1 ∨ l = 4 ∨ l = 5 := by
        have := hl.1
        have := hl.2
        omega
      obtain ⟨a, ha, ht⟩ := T.k_FIRSTS l hs
      exact s_ret (ev_op (ev_op (ev_op ev_c (ev_var rfl) (rv_kint ha)) (by walk_at "ev") (rv_ixT (ht H1) (small_at hs h1 h2))) ev_c rv_I0) fun H2 e2 => k H2 (e1.trans e2)
    · have z0 : ¬ l < 6 := of_decide_eq_false z
      rw [if_neg z0] at k
      have := hl.2
      refine q_when (by walk_at "ev") (fun z H2 e2 => ?_) fun z H2 e2 => ?_
      · rw [if_pos (V.int.inj (of_decide_eq_true z))] at k
        exact s_ret (ev_op (ev_call (vs := [.int (l / 4), .int n]) (by walk_at "ev") (v_first_by_fours (by omega))) ev_c rv_I0) fun H3 e3 => k H3 ((e1.trans e2).trans e3)
      · rw [if_neg (fun y => (of_decide_eq_false z) (by rw [y]))] at k
        exact s_ret (ev_op (ev_call (vs := [.int (l / 4), .int n]) (by walk_at "ev") (v_first_by_ones (by omega))) ev_c rv_I0) fun H3 e3 => k H3 ((e1.trans e2).trans e3)
theorem v_first_of {l n : Int} {H : Hp} (h : Can l) (h1 : 1 ≤ n) (h2 : n ≤ l) : SpV sp_first_of [.int l, .int n] H (.int (fst l n)) := fun _ _ _ q _ => ⟨l, n, rfl, h, h1, h2, q⟩
def sp_both : Sp := fun vs H Q _ => ∃ l n : Int, vs = [.int l, .int n] ∧ Can l ∧ 1 ≤ n ∧ n ≤ l ∧ RetU [.int (fst l n), .int (fst l n + n)] H Q
theorem ok_both (T : Tx K mg) : FnOk P w K mg base CX0 3 T.a_both T.d_both ["last", "number"] sp_both := by
  refine T.F_both.ok sc_both (fun vs H Q E h => ?_) (fun cdv A outer s H vs Q E hr h => ?_)
  · obtain ⟨l, n, rfl, _⟩ := h
    rfl
  · obtain ⟨l, n, rfl, hl, h1, h2, k⟩ := h
    refine ⟨_, (pss_cons (ps_set (i := 2) sc_both.nd rfl (.inl rfl) (pe_call (ok_first_of T) (hr.mono (by decide)) (by rfl) T.g_first_of T.F_first_of.kp T.b_first_of .nil pass0 (pa_cons (pv 0) (pa_cons (pv 1) pa_nil))))
      (pss_one (ps_ret (pe_tup (pa_cons (pv 2) (pa_cons (pe_op op_add (pv 2) (pv 1)) pa_nil)))))), ?_⟩
    refine q_asg (ev_call (by walk_at "ev") (v_first_of hl h1 h2)) fun H1 e1 => ?_
    exact s_retU (eu_tup (by walk_at "ev") (by show 2 ≤ 100000; decide)) fun p H2 hp e2 h2 => k.go e1 hp e2 h2
theorem v_both {l n : Int} {H : Hp} (h : Can l) (h1 : 1 ≤ n) (h2 : n ≤ l) : SpU sp_both [.int l, .int n] H [.int (fst l n), .int (fst l n + n)] := fun _ _ _ q _ => ⟨l, n, rfl, h, h1, h2, q⟩
/-! ### places_of -/
theorem v_asked_row {T : Tx K mg} {n : Int} {H : Hp} (h : Can n) : SpV (sp_asked_row T) [.int n] H .non := fun _ _ _ q _ => ⟨_, rfl, .inl ⟨n, rfl, h, q⟩⟩
def sp_places_of (T : Tx K mg) : Sp := fun vs H Q E => ∃ v u, vs = [v, u] ∧ ((∃ l n : Int, v = .int l ∧ u = .int n ∧ Can l ∧ 1 ≤ n ∧ n ≤ l ∧ RetU [.int (fst l n), .int (fst l n + n)] H Q) ∨ LastX T v H E ∨
  ∃ l : Int, v = .int l ∧ Can l ∧ BadV K H u (fun n => n < 1 ∨ l < n) ∧ Err T.c_BadNumber H E)
theorem ok_places_of (T : Tx K mg) : FnOk P w K mg base (L2.CX P w) 4 T.a_places_of T.d_places_of ["last", "number"] (sp_places_of T) := by
  refine T.F_places_of.okX sc_places_of (fun vs H Q E h => ?_) (fun cdv A outer s H vs Q E hr h => ?_)
  · obtain ⟨v, u, rfl, _⟩ := h
    rfl
  · obtain ⟨v, u, rfl, h⟩ := h
    refine ⟨_, (pss_cons (ps_expr (pe_call (ok_asked_row T) (hr.mono (by decide)) (by rfl) T.g_asked_row T.F_asked_row.kp T.b_asked_row .nil (passes_call (takes_of rfl rfl rfl rfl) (fun _ _ _ _ h => h)) (pa_cons (pv 0) pa_nil)))
      (pss_cons (ps_if (PW.pt (pw_or (pt_not (pt_val (pe_call (ok_is_number T) (hr.mono (by decide)) (by rfl) T.g_is_number T.F_is_number.kp T.b_is_number .nil pass0 (pa_cons (pv 1) pa_nil)))) (pw_or1 (pt_not (pt_chain op_le op_le pe_int (pv 1) (pv 0)))))) (pss_one (ps_raise rfl (takes_of rfl rfl rfl rfl) (pmk_own PySem.F.excBase_ValueError T.x_BadNumber.ex T.g_BadNumber T.x_BadNumber.kp (raises_own T.x_BadNumber.sb T.x_BadNumber.ty) (by rfl)))) pss_nil)
      (pss_one (ps_ret (pe_call (ok_both T) (hr.mono (by decide)) (by rfl) T.g_both T.F_both.kp T.b_both .nil pass0 (pa_cons (pv 0) (pa_cons (pv 1) pa_nil))))))), ?_⟩
    rcases h with ⟨l, n, rfl, rfl, hl, h1, h2, k⟩ | hx | ⟨l, rfl, hl, hb, k⟩
    · refine q_drop (ev_call (ea_cons (ev_var rfl) ea_nil) (v_asked_row (T := T) hl)) fun H1 e1 => ?_
      refine q_when (b := false) (et_is (et_or (et_not (et_B (ev_call (ea_cons (ev_var rfl) ea_nil) (v_is_number (Num.int n))))) fun _ => et_not (et_test (ev_chain ev_c (ev_var rfl) rv_I0 (fun _ => ev_var rfl) fun _ => rv_I0))) ?_) (fun z => nomatch z) fun _ H2 e2 => ?_
      · rw [decide_eq_true h1, decide_eq_true h2]
        rfl
      · exact s_retU (eu_call (by walk_at "ev") (v_both hl h1 h2)) fun p H3 hp e3 h3 => k.go (e1.trans e2) hp e3 h3
    · exact ⟨_, rfl, _, rfl, .inr hx⟩
    · refine q_drop (ev_call (ea_cons (ev_var rfl) ea_nil) (v_asked_row (T := T) hl)) fun H1 e1 => ?_
      rcases hb with hb | ⟨n, rfl, hn⟩
      · exact q_when (b := true) (et_is (a := !false || true) (et_or (et_not (et_B (ev_call (ea_cons (ev_var rfl) ea_nil) (v_is_number (hb.ex e1))))) fun z => nomatch z) rfl) (fun _ H2 e2 => k H2 (e1.trans e2)) (fun z => nomatch z)
      · refine q_when (b := true) (et_is (et_or (et_not (et_B (ev_call (ea_cons (ev_var rfl) ea_nil) (v_is_number (Num.int n))))) fun _ => et_not (et_test (ev_chain ev_c (ev_var rfl) rv_I0 (fun _ => ev_var rfl) fun _ => rv_I0))) ?_) (fun _ H2 e2 => k H2 (e1.trans e2)) (fun z => nomatch z)
        simp only [Bool.not_true, Bool.false_or, Bool.not_eq_true', Bool.and_eq_false_iff, decide_eq_false_iff_not]
        omega
theorem v_places_of {T : Tx K mg} {l n : Int} {H : Hp} (h : Can l) (h1 : 1 ≤ n) (h2 : n ≤ l) : SpU (sp_places_of T) [.int l, .int n] H [.int (fst l n), .int (fst l n + n)] := fun _ _ _ q _ => ⟨_, _, rfl, .inl ⟨l, n, rfl, rfl, h, h1, h2, q⟩⟩
/-! ### at_place -/
def sp_at_place : Sp := fun vs H Q _ => ∃ l q : Int, vs = [.int l, .int q] ∧ Can l ∧ 0 ≤ q ∧ q < 2 * l ∧ RetV (.int (num l q)) H Q
theorem et_cand {T : Tx K mg} {σ : L2.St} {H : Hp} {l q n : Int} {E : XK} (hl : Can l) (h0 : σ[0]? = some (some (.int l))) (h1 : σ[1]? = some (some (.int q))) (h7 : σ[7]? = some (some (.int n))) :
    EvT (tAnd (tTest (tChain (rI0 fun i j => .bl (decide (i ≤ j))) (rI0 fun i j => .bl (decide (i ≤ j))) (tC (.int 1)) (tVar 7) (tVar 0))) (tTest (tOp (rIn K false) (tVar 1) (tCall sp_both [] E (tCons (tVar 0) (tCons (tVar 7) tNil)))))) σ H (decide (At l q n)) := by
  by_cases hn : 1 ≤ n ∧ n ≤ l
  · refine et_is (et_and (et_test (ev_chain ev_c (ev_var h7) rv_I0 (fun _ => ev_var h0) fun _ => rv_I0)) fun _ => et_test (ev_inU (ev_var h1) (eu_call (ea_cons (ev_var h0) (ea_cons (ev_var h7) ea_nil)) (v_both hl hn.1 hn.2)) rfl rfl)) ?_
    rw [inV_pair, decide_eq_true hn.1, decide_eq_true hn.2]
    show decide _ = decide _
    refine decide_eq_decide.mpr ⟨fun z => ⟨hn, z⟩, fun z => z.2⟩
  · refine et_is (et_and (b := true) (et_test (ev_chain ev_c (ev_var h7) rv_I0 (fun _ => ev_var h0) fun _ => rv_I0)) fun z => ?_) ?_
    · simp only [Bool.and_eq_true, decide_eq_true_eq] at z
      exact absurd z hn
    · rw [decide_eq_false (p := At l q n) fun z => hn z.1, Bool.and_true, ← Bool.decide_and]
      exact decide_eq_false hn
theorem ok_at_place (T : Tx K mg) : FnOk P w K mg base CX0 4 T.a_at_place T.d_at_place ["last", "place"] sp_at_place := by
  refine T.F_at_place.ok sc_at_place (fun vs H Q E h => ?_) (fun cdv A outer s H vs Q E hr h => ?_)
  · obtain ⟨l, q, rfl, _⟩ := h
    rfl
  · obtain ⟨l, q, rfl, hl, h1, h2, k⟩ := h
    refine ⟨_, (pss_cons (ps_set (i := 2) sc_at_place.nd rfl (.inl rfl) (pe_op op_fdiv (pv 0) pe_int))
      (pss_cons (ps_set (i := 3) sc_at_place.nd rfl (.inl rfl) (pe_op op_add (pe_op op_mul pe_int (pv 2)) (pe_op op_mul pe_int (pe_op op_mod (pv 0) pe_int))))
      (pss_cons (ps_set (i := 4) sc_at_place.nd rfl (.inl rfl) (pe_op op_add (pv 1) pe_int))
      (pss_cons (ps_set (i := 5) sc_at_place.nd rfl (.inl rfl) (pe_lst (pa_cons (pe_op op_mul pe_int (pe_callB call_abs (by rfl) T.m_abs bt_abs (pa_cons (pe_op op_sub (pv 4) (pv 3)) pa_nil))) (pa_cons pe_int (pa_cons pe_int (pa_cons pe_int (pa_cons pe_int (pa_cons pe_int (pa_cons (pe_op op_sub (pe_op op_mul pe_int (pv 2)) pe_int) (pa_cons (pe_op op_add (pe_op op_mul pe_int (pv 2)) pe_int) (pa_cons (pe_op op_sub (pe_op op_mul pe_int (pv 2)) pe_int) (pa_cons (pe_op op_add (pe_op op_mul pe_int (pv 2)) pe_int) pa_nil))))))))))))
      (pss_cons (ps_for PassesOwn.never rfl (pi_tup (pe_tup (pa_cons (pe_un un_neg pe_int) (pa_cons pe_int (pa_cons pe_int pa_nil))))) (pg_name (i := 6) sc_at_place.nd rfl (Or.inl rfl))
      (pss_one (ps_expr (pe_bm PySem.F.plainAttrs_list PySem.F.slot_list_extend PySem.F.type_list_extend mt_extend (pv 5) (pa_cons (pe_lst (pa_cons (pe_op op_sub (pe_op op_add (pe_op op_mul pe_int (pv 2)) (pv 6)) (pe_op op_mul pe_int (pv 4))) (pa_cons (pe_op op_sub (pe_op op_sub (pe_op op_mul pe_int (pv 4)) (pe_op op_mul pe_int (pv 2))) (pv 6)) pa_nil))) pa_nil)))))
      (pss_one (ps_ret (pe_ix (r := rIxL K) ix_list (pe_lc (own := [("number", 7)]) (by rfl) sc_at_place.nd (pi_list (pv 5)) (blkOk_by (own := [("number", 7)]) (N := N_at_place) (sc := defScope s_at_place) (by decide +kernel)) (fun _ _ _ _ _ => (pg_name (i := 7) sc_at_place.nd rfl (Or.inl rfl))) (fun _ _ _ _ _ => pts_one (PW.pt (pw_and (pt_chain op_le op_le pe_int (pv 7) (pv 0)) (pw_and1 (pt_cmpR (r := rIn K false) op_in_seq (pv 1) (pe_call (ok_both T) (hr.mono (by decide)) (by rfl) T.g_both T.F_both.kp T.b_both .nil pass0 (pa_cons (pv 0) (pa_cons (pv 7) pa_nil))) (by rfl)))))) (fun _ _ _ _ _ => (pv 7))) pe_int (fun _ _ => rfl))))))))), ?_⟩
    refine q_asg (by walk_at "ev") fun H1 e1 => q_asg (by walk_at "ev") fun H2 e2 => q_asg (by walk_at "ev") fun H3 e3 => ?_
    refine q_asgL (el_lst (by walk_at "ev") (by show 10 ≤ 100000; decide)) fun a H4 ha e4 h4 => ?_
    have h4 : H4 a = some (.lst (((cand l q).take 10).map V.int)) := h4
    have e04 : Ex H H4 := ((e1.trans e2).trans e3).trans e4
    have ha0 : H a = none := fresh_back ((e1.trans e2).trans e3) ha
    refine q_forNU (xs := [.int (-1), .int 1, .int 3]) (eu_tup (by walk_at "ev") (by show 3 ≤ 100000; decide)) (fun p i σ' H' => (∃ y, σ' = [some (.int l), some (.int q), some (.int (l / 4)), some (.int (6 * (l / 4) + 2 * (l % 4))), some (.int (q + 1)), some (.ref a), y, none]) ∧ Ex H H' ∧ H' p = some (.tup [.int (-1), .int 1, .int 3]) ∧ p ≠ a ∧ H' a = some (.lst (((cand l q).take (10 + 2 * i)).map V.int)))
      (fun p H5 hp e5 h5 => ⟨⟨none, rfl⟩, e04.trans e5, h5, (fun z => by rw [z, h4] at hp; cases hp), e5 _ _ h4⟩) (fun p i σ' H' _ hP => st_of hP.2.2.1) ?_ ?_
    · rintro p i x σ' H' hi ⟨⟨y, rfl⟩, e', hp, np, h'⟩
      rcases i with _ | _ | _ | i
      · obtain rfl : V.int (-1) = x := Option.some.inj hi
        refine s_ext h' (ev_var rfl) (el_lst (by walk_at "ev") (by show 2 ≤ 100000; decide)) (by show 10 + 2 ≤ 100000; decide) fun H6 e6 => ⟨⟨_, rfl⟩, Ex.mut (e'.trans e6) ha0, ?_, np, upd_same⟩
        rw [upd_ne np]
        exact e6 _ _ hp
      · obtain rfl : V.int 1 = x := Option.some.inj hi
        refine s_ext h' (ev_var rfl) (el_lst (by walk_at "ev") (by show 2 ≤ 100000; decide)) (by show 12 + 2 ≤ 100000; decide) fun H6 e6 => ⟨⟨_, rfl⟩, Ex.mut (e'.trans e6) ha0, ?_, np, upd_same⟩
        rw [upd_ne np]
        exact e6 _ _ hp
      · obtain rfl : V.int 3 = x := Option.some.inj hi
        refine s_ext h' (ev_var rfl) (el_lst (by walk_at "ev") (by show 2 ≤ 100000; decide)) (by show 14 + 2 ≤ 100000; decide) fun H6 e6 => ⟨⟨_, rfl⟩, Ex.mut (e'.trans e6) ha0, ?_, np, upd_same⟩
        rw [upd_ne np]
        exact e6 _ _ hp
      · simp at hi
    · rintro p σ' H' ⟨⟨y, rfl⟩, e', hp, np, h'⟩
      have h' : H' a = some (.lst ((cand l q).map V.int)) := h'
      refine s_ret (ev_opL1 (el_is (el_lcL (xs := (cand l q).map V.int) (fun i => decide (At l q ((cand l q).getD i 0))) (fun i => .int ((cand l q).getD i 0)) (ev_var rfl) (sq_of h') (by show 16 ≤ 40000; decide) (fun _ => rfl)
          (fun i x H1 _ hi => by rw [getD_of hi]; exact et_cand (T := T) hl rfl rfl rfl) (fun i x H1 _ hi _ => by rw [getD_of hi]; exact ev_var rfl)) (given_filter (fun n => decide (At l q n)) (cand l q))) (fun _ _ => ev_c) fun p H6 hp6 e6 => rv_ixL (sq_of hp6) ?_) fun H7 e7 => k H7 (e'.trans e7)
      obtain ⟨r, er⟩ := filt_at hl (at_num hl h1 h2)
      rw [er]
      exact atI_nat (j := 0) rfl
theorem v_at_place {l q : Int} {H : Hp} (h : Can l) (h1 : 0 ≤ q) (h2 : q < 2 * l) : SpV sp_at_place [.int l, .int q] H (.int (num l q)) := fun _ _ _ k _ => ⟨l, q, rfl, h, h1, h2, k⟩
/-! ### number_at -/
end
end PA

set_option Elab.async false
set_option linter.all false
set_option maxRecDepth 100000
set_option maxHeartbeats 4000000
namespace PA
open PySem PySem.Spec PyProof.Rows L2 Evl
local macro_rules | `(tactic| walk_at "ev") => `(tactic| repeat' (first | (with_reducible exact ev_c) | (with_reducible refine' ev_var ?_) | (show _ = some (some _); rfl) | (with_reducible exact ea_nil) | (with_reducible refine' ea_cons ?_ ?_) | (with_reducible refine' ev_abs ?_) | (with_reducible refine' ev_op ?_ ?_ ?_) | (with_reducible exact rv_I0) | (exact rv_mulL (by decide)) | (exact rv_mulR (by decide)) | (exact rv_div (by decide)) | (exact rv_mod (by decide)) | (exact rv_pow (by decide)) | (with_reducible refine' ev_un ?_ ?_) | (with_reducible exact ru_neg) | (exact rv_eq rfl) | (exact rv_ne rfl) | (with_reducible refine' et_test ?_) | (with_reducible refine' et_B ?_) | (exact ev_c) | (exact rv_I0) | (exact ea_nil) | (refine' ea_cons ?_ ?_)))
section
variable {P : Program} {w : World} {K : PySem.W.Frag} {mg : Str → Option Value} {base : Heap}
/-! ### _law_number, _law_last, _law_whole -/
def mixed (c a s : Int) : Int := ((c + 977 * a) * 48271 + s) % 2147483647
def lawNum (c a s : Int) : Int := if 10 ^ 18 ≤ c then c / (1 + a % 7) else mixed c a s * (c + 31 * a + 7) * (mixed c a s + c + 5) * (mixed c a s * mixed c a s + 11) / (1009 + a)
def sp__law_number : Sp := fun vs H Q _ => ∃ c a s : Int, vs = [.int c, .int a, .int s] ∧ 0 ≤ a ∧ a ≤ 1000 ∧ Builtin.Int.intBits c ≤ 1048576 ∧ RetV (.int (lawNum c a s)) H Q
theorem small_bits {x : Int} {m : Nat} (h : x.natAbs < 2 ^ m) : Builtin.Int.intBits x ≤ m := intBits_le_iff.mpr h
theorem ok__law_number (T : Tx K mg) : FnOk P w K mg base CX0 1 T.a__law_number T.d__law_number ["_law_cell", "_law_at", "_law_whole_here"] sp__law_number := by
  refine T.F__law_number.ok sc__law_number (fun vs H Q E h => ?_) (fun cdv A outer s H vs Q E hr h => ?_)
  · obtain ⟨c, a, s, rfl, _⟩ := h
    rfl
  · obtain ⟨c, a, S, rfl, h0, h1, hb, k⟩ := h
    refine ⟨_, (pss_cons (ps_if (pt_cmpR op_ge (pv 0) (pe_op op_pow pe_int pe_int) (nomark _)) (pss_one (ps_ret (pe_op op_fdiv (pv 0) (pe_op op_add pe_int (pe_op op_mod (pv 1) pe_int))))) pss_nil)
      (pss_cons (ps_set (i := 3) sc__law_number.nd rfl (.inl rfl) (pe_op op_mod (pe_op op_add (pe_op op_mul (pe_op op_add (pv 0) (pe_op op_mul pe_int (pv 1))) pe_int) (pv 2)) pe_int))
      (pss_cons (ps_set (i := 4) sc__law_number.nd rfl (.inl rfl) (pe_op op_mul (pv 3) (pe_op op_add (pe_op op_add (pv 0) (pe_op op_mul pe_int (pv 1))) pe_int)))
      (pss_one (ps_ret (pe_op op_fdiv (pe_op op_mul (pe_op op_mulX (pv 4) (pe_op op_add (pe_op op_add (pv 3) (pv 0)) pe_int)) (pe_op op_add (pe_op op_mul (pv 3) (pv 3)) pe_int)) (pe_op op_add pe_int (pv 1)))))))), ?_⟩
    refine q_when (b := decide ((10 : Int) ^ 18 ≤ c)) (by walk_at "ev") (fun z H1 e1 => ?_) fun z H1 e1 => ?_
    · unfold lawNum at k
      rw [if_pos (of_decide_eq_true z)] at k
      refine s_ret (ev_op (ev_var rfl) (by walk_at "ev") (rv_div ?_)) fun H2 e2 => k H2 (e1.trans e2)
      have := Int.emod_nonneg a (show (7 : Int) ≠ 0 by decide)
      have := Int.emod_lt_of_pos a (show (0 : Int) < 7 by decide)
      omega
    · unfold lawNum at k
      rw [if_neg (of_decide_eq_false z)] at k
      refine q_asg (v := .int (mixed c a S)) (by walk_at "ev") fun H2 e2 => ?_
      have m0 : 0 ≤ mixed c a S := Int.emod_nonneg _ (by decide)
      have m1 : mixed c a S < 2147483647 := Int.emod_lt_of_pos _ (by decide)
      generalize mixed c a S = M at *
      have mb : Builtin.Int.intBits M ≤ 31 := small_bits (by have : (2 : Nat) ^ 31 = 2147483648 := by decide
                                                             omega)
      have ab : Builtin.Int.intBits (31 * a) ≤ 20 := small_bits (by have : (2 : Nat) ^ 20 = 1048576 := by decide
                                                                    omega)
      have sb : Builtin.Int.intBits (7 : Int) ≤ 3 := by decide
      have fb : Builtin.Int.intBits (5 : Int) ≤ 3 := by decide
      have b1 : Builtin.Int.intBits (c + 31 * a + 7) ≤ 1048578 := Nat.le_trans (intBits_add_le (intBits_add_le hb ab) sb) (by decide)
      have b2 : Builtin.Int.intBits (M * (c + 31 * a + 7)) ≤ 31 + 1048578 := intBits_mul_le mb b1
      have b3 : Builtin.Int.intBits (M + c + 5) ≤ 1048578 := Nat.le_trans (intBits_add_le (intBits_add_le mb hb) fb) (by decide)
      refine q_asg (v := .int (M * (c + 31 * a + 7))) (ev_op (ev_var rfl) (by walk_at "ev") (rv_mulL ⟨by omega, by omega⟩)) fun H3 e3 => ?_
      refine s_ret (ev_op (ev_op (ev_op (ev_var rfl) (by walk_at "ev") (rv_mulX b2 b3 (by decide))) (ev_op (ev_op (ev_var rfl) (ev_var rfl) (rv_mulL ⟨by omega, by omega⟩)) ev_c rv_I0) (rv_mulR ?_)) (by walk_at "ev") (rv_div ?_)) fun H4 e4 => k H4 (((e1.trans e2).trans e3).trans e4)
      · have p0 : 0 ≤ M * M := Int.mul_nonneg m0 m0
        have p1 : M * M ≤ 2147483647 * 2147483647 := Int.mul_le_mul (Int.le_of_lt m1) (Int.le_of_lt m1) m0 (by decide)
        exact ⟨by omega, by omega⟩
      · exact ⟨by omega, by omega⟩
theorem v__law_number {c a s : Int} {H : Hp} (h0 : 0 ≤ a) (h1 : a ≤ 1000) (hb : Builtin.Int.intBits c ≤ 1048576) : SpV sp__law_number [.int c, .int a, .int s] H (.int (lawNum c a s)) := fun _ _ _ q _ => ⟨c, a, s, rfl, h0, h1, hb, q⟩
def cellsOf (ns : List Int) : List Int := if ns = [] then [3] else ns
theorem cells_len {ns : List Int} (h : ns.length ≤ 63) : 1 ≤ (cellsOf ns).length ∧ (cellsOf ns).length ≤ 63 := by
  unfold cellsOf
  split
  · exact ⟨by decide, by decide⟩
  · rename_i hn
    exact ⟨List.length_pos_iff.mpr hn, h⟩
theorem cells_bits {ns : List Int} (h : ∀ z ∈ ns, Builtin.Int.intBits z ≤ 1048576) : ∀ z ∈ cellsOf ns, Builtin.Int.intBits z ≤ 1048576 := by
  unfold cellsOf
  split
  · intro z hz
    rw [List.mem_singleton.mp hz]
    decide
  · exact h
theorem getD_mem {ns : List Int} {i : Nat} (h : i < ns.length) : ns.getD i 0 ∈ ns := by
  rw [List.getD_eq_getElem?_getD, List.getElem?_eq_getElem h]
  exact List.getElem_mem h
def lastFound (ns : List Int) (a : Int) : Int := 1 + lawNum ((cellsOf ns).getD (a % (cellsOf ns).length).toNat 0) a (cellsOf ns).length / 5 % (([20, 200, 10 ^ 6, 10 ^ 40] : List Int).getD (((cellsOf ns).sum + a) % 4).toNat 0)
def lawLast (ns : List Int) (a : Int) : Int := if 1 < lastFound ns a % 4 then lastFound ns a + 2 else lastFound ns a
theorem pick_pos {i : Int} (h0 : 0 ≤ i) (h1 : i < 4) : 0 < ([20, 200, 10 ^ 6, 10 ^ 40] : List Int).getD i.toNat 0 := by
  have : i = 0 ∨ i = 1 ∨ i = 2 ∨ i = 3 := by omega
  rcases this with rfl | rfl | rfl | rfl <;> decide
theorem lawLast_can (ns : List Int) (a : Int) : Can (lawLast ns a) := by
  have h0 := Int.emod_nonneg ((cellsOf ns).sum + a) (show (4 : Int) ≠ 0 by decide)
  have h1 := Int.emod_lt_of_pos ((cellsOf ns).sum + a) (show (0 : Int) < 4 by decide)
  have hp := pick_pos h0 h1
  have hm := Int.emod_nonneg (lawNum ((cellsOf ns).getD (a % (cellsOf ns).length).toNat 0) a (cellsOf ns).length / 5) (show ([20, 200, 10 ^ 6, 10 ^ 40] : List Int).getD (((cellsOf ns).sum + a) % 4).toNat 0 ≠ 0 by omega)
  have hf : 1 ≤ lastFound ns a := by
    unfold lastFound
    omega
  unfold lawLast Can
  split <;> omega
def sp__law_last (K : PySem.W.Frag) : Sp := fun vs H Q _ => ∃ (a : Addr) (ns : List Int) (i : Int), vs = [.ref a, .int i] ∧ SqL K H a (ns.map V.int) ∧ ns.length ≤ 63 ∧ (∀ z ∈ ns, Builtin.Int.intBits z ≤ 1048576) ∧ 0 ≤ i ∧ i ≤ 1000 ∧ RetV (.int (lawLast ns i)) H Q
theorem ok__law_last (T : Tx K mg) : FnOk P w K mg base CX0 2 T.a__law_last T.d__law_last ["_law_script", "_law_at"] (sp__law_last K) := by
  refine T.F__law_last.ok sc__law_last (fun vs H Q E h => ?_) (fun cdv A outer s H vs Q E hr h => ?_)
  · obtain ⟨a, ns, i, rfl, _⟩ := h
    rfl
  · obtain ⟨a, ns, i, rfl, hS, hl, hb, h0, h1, k⟩ := h
    refine ⟨_, (pss_cons (ps_set (i := 2) sc__law_last.nd rfl (.inl rfl) (pe_ifExp (pt_cmpR (r := rNeD K) (op_neD hr.units) (pv 0) (pe_lst pa_nil) (nomark _)) (pe_slice (r := rSlL K) sl_list (pv 0) po_none (po_some pe_int)) (pe_lst (pa_cons pe_int pa_nil))))
      (pss_cons (ps_set (i := 3) sc__law_last.nd rfl (.inl rfl) (pe_call (ok__law_number T) (hr.mono (by decide)) (by rfl) T.g__law_number T.F__law_number.kp T.b__law_number .nil pass0 (pa_cons (pe_ix (r := rIxL K) ix_list (pv 2) (pe_op op_mod (pv 1) (pe_callB (r := rLenS K) call_len_seq (by rfl) T.m_len bt_len (pa_cons (pv 2) pa_nil))) (fun _ _ => rfl)) (pa_cons (pv 1) (pa_cons (pe_callB (r := rLenS K) call_len_seq (by rfl) T.m_len bt_len (pa_cons (pv 2) pa_nil)) pa_nil)))))
      (pss_cons (ps_set (i := 4) sc__law_last.nd rfl (.inl rfl) (pe_op op_add pe_int (pe_op op_mod (pe_op op_fdiv (pv 3) pe_int) (pe_ix (r := rIxT K) ix_tup (pe_tup (pa_cons pe_int (pa_cons pe_int (pa_cons (pe_op op_pow pe_int pe_int) (pa_cons (pe_op op_pow pe_int pe_int) pa_nil))))) (pe_op op_mod (pe_op op_add (pe_callB (r := rSum K) (cr_sum rfl) (by rfl) T.m_sum bt_sum (pa_cons (pv 2) pa_nil)) (pv 1)) pe_int) (fun _ _ => rfl)))))
      (pss_one (ps_ret (pe_ifExp (pt_cmpR op_gt (pe_op op_mod (pv 4) pe_int) pe_int (nomark _)) (pe_op op_add (pv 4) pe_int) (pv 4))))))), ?_⟩
    have cl := cells_len hl
    have cb := cells_bits hb
    refine q_asgL (xs := (cellsOf ns).map V.int) (el_if (et_test (ev_opL (xs := []) (ev_var rfl) (el_lst ea_nil (by decide)) fun p H1 hp e1 => rv_neL (ex_l e1 hS) (ms := []) (sq_of hp))) (fun z => ?_) fun z => ?_) fun c H1 hc e1 h1c => ?_
    · have hn : ¬ ns = [] := by simpa using z
      refine el_is (el_sl (ev_var rfl) eo_none (eo_some ev_c) hS) ?_
      rw [cut_all (by rw [List.length_map]; exact hl)]
      unfold cellsOf
      rw [if_neg hn]
    · have hn : ns = [] := by simpa using z
      refine el_is (el_lst (by walk_at "ev") (by show 1 ≤ 100000; decide)) ?_
      unfold cellsOf
      rw [if_pos hn]
      rfl
    · have hC : SqL K H1 c ((cellsOf ns).map V.int) := sq_of h1c
      have hlen : ∀ H2, Ex H1 H2 → SqL K H2 c ((cellsOf ns).map V.int) := fun H2 e => ex_l e hC
      have m0 : 0 ≤ i % (cellsOf ns).length := Int.emod_nonneg _ (by omega)
      have m1 : i % (cellsOf ns).length < (cellsOf ns).length := Int.emod_lt_of_pos _ (by omega)
      have el : (((cellsOf ns).map V.int).length : Int) = ((cellsOf ns).length : Int) := by rw [List.length_map]
      have evl : ∀ {σ : L2.St} {H2 : Hp}, Ex H1 H2 → σ[2]? = some (some (.ref c)) → Ev (tCB (rLenS K) (tCons (tVar 2) tNil)) σ H2 (.int ((cellsOf ns).length : Int)) := fun e hv => by
        rw [← el]
        exact ev_len (ev_var hv) (hlen _ e)
      refine q_asg (ev_call (vs := [.int ((cellsOf ns).getD (i % (cellsOf ns).length).toNat 0), .int i, .int (cellsOf ns).length]) (ea_cons (ev_op (ev_var rfl) (ev_op (ev_var rfl) (evl (Ex.refl _) rfl) (rv_mod (by omega))) (rv_ixL hC (atI_int m0 (by omega)))) (ea_cons (ev_var rfl) (ea_cons (evl (Ex.refl _) rfl) ea_nil)))
        (v__law_number h0 h1 (cb _ (getD_mem (by omega))))) fun H2 e2 => ?_
      have s0 := Int.emod_nonneg ((cellsOf ns).sum + i) (show (4 : Int) ≠ 0 by decide)
      have s1 := Int.emod_lt_of_pos ((cellsOf ns).sum + i) (show (0 : Int) < 4 by decide)
      refine q_asg (v := .int (lastFound ns i)) (ev_op ev_c (ev_op (by walk_at "ev") (ev_opU1 (xs := ([20, 200, 10 ^ 6, 10 ^ 40] : List Int).map V.int) (eu_tup (by walk_at "ev") (by show 4 ≤ 100000; decide)) (fun H3 e3 => ev_op (ev_op (ev_sum (ev_var rfl) (hlen H3 (e2.trans e3))) (ev_var rfl) rv_I0) ev_c (rv_mod (by decide)))
        fun p H3 hp e3 => rv_ixT (st_of hp) (atI_int s0 (by show _ < (4 : Int); exact s1))) (rv_mod (pick_pos s0 s1))) rv_I0) fun H3 e3 => ?_
      refine s_ret (v := .int (lawLast ns i)) (ev_is (ev_ifV (by walk_at "ev") (fun _ => by walk_at "ev") (fun _ => by walk_at "ev")) ?_) fun H4 e4 => k H4 (((e1.trans e2).trans e3).trans e4)
      unfold lawLast
      simp only [decide_eq_true_eq]
      split <;> rfl
theorem v__law_last {a : Addr} {ns : List Int} {i : Int} {H : Hp} (hS : SqL K H a (ns.map V.int)) (hl : ns.length ≤ 63) (hb : ∀ z ∈ ns, Builtin.Int.intBits z ≤ 1048576) (h0 : 0 ≤ i) (h1 : i ≤ 1000) : SpV (sp__law_last K) [.ref a, .int i] H (.int (lawLast ns i)) := fun _ e _ q _ => ⟨a, ns, i, rfl, ex_l e hS, hl, hb, h0, h1, q⟩
def sp__law_whole (K : PySem.W.Frag) : Sp := fun vs H Q _ => ∃ n : Int, vs = [.int n] ∧ RetV (.bl true) H Q
theorem ok__law_whole (T : Tx K mg) : FnOk P w K mg base CX0 1 T.a__law_whole T.d__law_whole ["_law_number_here"] (sp__law_whole K) := by
  refine T.F__law_whole.ok sc__law_whole (fun vs H Q E h => ?_) (fun cdv A outer s H vs Q E hr h => ?_)
  · obtain ⟨n, rfl, _⟩ := h
    rfl
  · obtain ⟨n, rfl, k⟩ := h
    refine ⟨_, (pss_one (ps_ret (pe_and (pe_callB (r := rIsi K) call_isi (by rfl) T.m_isinstance bt_isinstance (pa_cons (pv 0) (pa_cons (pe_bltn (v := .ty "int") (by rfl) T.m_int bt_int rfl) pa_nil))) (pe_one (pe_not (pe_callB (r := rIsi K) call_isi (by rfl) T.m_isinstance bt_isinstance (pa_cons (pv 0) (pa_cons (pe_bltn (v := .ty "bool") (by rfl) T.m_bool bt_bool rfl) pa_nil)))))))), ?_⟩
    exact s_ret (v := .bl (true && !false)) (ev_andV (ev_isi (ea_cons (ev_var rfl) (ea_cons ev_c ea_nil)) (.ty "int") (.base (.int n)) (kit_ty (by decide +kernel))) fun z => ev_notV (ev_isi (ea_cons (ev_var rfl) (ea_cons ev_c ea_nil)) (.ty "bool") (.base (.int n)) (kit_ty (by decide +kernel)))) k
theorem v__law_whole {n : Int} {H : Hp} : SpV (sp__law_whole K) [.int n] H (.bl true) := fun _ _ _ q _ => ⟨n, rfl, q⟩
end
end PA

set_option Elab.async false
set_option linter.all false
set_option maxRecDepth 100000
set_option maxHeartbeats 4000000
namespace PA
open PySem PySem.Spec PyProof.Rows L2 Evl
local macro_rules | `(tactic| walk_at "ev") => `(tactic| repeat' (first | (with_reducible exact ev_c) | (with_reducible refine' ev_var ?_) | (show _ = some (some _); rfl) | (with_reducible exact ea_nil) | (with_reducible refine' ea_cons ?_ ?_) | (with_reducible refine' ev_abs ?_) | (with_reducible refine' ev_op ?_ ?_ ?_) | (with_reducible exact rv_I0) | (exact rv_mulL (by decide)) | (exact rv_mulR (by decide)) | (exact rv_div (by decide)) | (exact rv_mod (by decide)) | (exact rv_pow (by decide)) | (with_reducible refine' ev_un ?_ ?_) | (with_reducible exact ru_neg) | (exact rv_eq rfl) | (exact rv_ne rfl) | (with_reducible refine' et_test ?_) | (with_reducible refine' et_B ?_) | (exact ev_c) | (exact rv_I0) | (exact ea_nil) | (refine' ea_cons ?_ ?_)))
section
variable {P : Program} {w : World} {K : PySem.W.Frag} {mg : Str → Option Value} {base : Heap}
/-! ### three_by, three_of -/
def sp_three_by : Sp := fun vs H Q _ => ∃ l n : Int, vs = [.int l, .int n] ∧ Can l ∧ 1 ≤ n ∧ n ≤ l ∧ RetL ((three l n).map V.int) H Q
theorem ok_three_by (T : Tx K mg) : FnOk P w K mg base CX0 3 T.a_three_by T.d_three_by ["last", "number"] sp_three_by := by
  refine T.F_three_by.ok sc_three_by (fun vs H Q E h => ?_) (fun cdv A outer s H vs Q E hr h => ?_)
  · obtain ⟨l, n, rfl, _⟩ := h
    rfl
  · obtain ⟨l, n, rfl, hl, h1, h2, k⟩ := h
    refine ⟨_, (pss_cons (ps_set (i := 2) sc_three_by.nd rfl (.inl rfl) (pe_op op_add (pe_op op_add (pv 0) (pe_call (ok_first_of T) (hr.mono (by decide)) (by rfl) T.g_first_of T.F_first_of.kp T.b_first_of .nil pass0 (pa_cons (pv 0) (pa_cons (pv 1) pa_nil)))) pe_int))
      (pss_one (ps_ret (pe_lst (pa_cons (pv 1) (pa_cons (pv 2) (pa_cons (pe_op op_add (pv 2) (pv 1)) pa_nil))))))), ?_⟩
    refine q_asg (v := .int (l + fst l n + 1)) (ev_op (ev_op (ev_var rfl) (ev_call (by walk_at "ev") (v_first_of hl h1 h2)) rv_I0) ev_c rv_I0) fun H1 e1 => ?_
    refine s_retL (el_is (el_lst (by walk_at "ev") (by show 3 ≤ 100000; decide)) ?_) fun p H2 hp e2 h2 => k.go e1 hp e2 h2
    unfold three
    rw [bas_low h2]
    rfl
theorem v_three_by {l n : Int} {H : Hp} (h : Can l) (h1 : 1 ≤ n) (h2 : n ≤ l) : SpL sp_three_by [.int l, .int n] H ((three l n).map V.int) := fun _ _ _ q _ => ⟨l, n, rfl, h, h1, h2, q⟩
def sp_three_of (T : Tx K mg) : Sp := fun vs H Q E => ∃ v u, vs = [v, u] ∧ ((∃ l n : Int, v = .int l ∧ u = .int n ∧ Can l ∧ 1 ≤ n ∧ n ≤ 3 * l ∧ RetL ((three l n).map V.int) H Q) ∨ LastX T v H E ∨
  ∃ l : Int, v = .int l ∧ Can l ∧ BadV K H u (fun n => n < 1 ∨ 3 * l < n) ∧ Err T.c_BadNumber H E)
theorem ok_three_of (T : Tx K mg) : FnOk P w K mg base (L2.CX P w) 5 T.a_three_of T.d_three_of ["last", "number"] (sp_three_of T) := by
  refine T.F_three_of.okX sc_three_of (fun vs H Q E h => ?_) (fun cdv A outer s H vs Q E hr h => ?_)
  · obtain ⟨v, u, rfl, _⟩ := h
    rfl
  · obtain ⟨v, u, rfl, h⟩ := h
    refine ⟨_, (pss_cons (ps_expr (pe_call (ok_asked_row T) (hr.mono (by decide)) (by rfl) T.g_asked_row T.F_asked_row.kp T.b_asked_row .nil (passes_call (takes_of rfl rfl rfl rfl) (fun _ _ _ _ h => h)) (pa_cons (pv 0) pa_nil)))
      (pss_cons (ps_if (PW.pt (pw_or (pt_not (pt_val (pe_call (ok_is_number T) (hr.mono (by decide)) (by rfl) T.g_is_number T.F_is_number.kp T.b_is_number .nil pass0 (pa_cons (pv 1) pa_nil)))) (pw_or1 (pt_not (pt_chain op_le op_le pe_int (pv 1) (pe_op op_mul pe_int (pv 0))))))) (pss_one (ps_raise rfl (takes_of rfl rfl rfl rfl) (pmk_own PySem.F.excBase_ValueError T.x_BadNumber.ex T.g_BadNumber T.x_BadNumber.kp (raises_own T.x_BadNumber.sb T.x_BadNumber.ty) (by rfl)))) pss_nil)
      (pss_one (ps_ret (pe_call (ok_three_by T) (hr.mono (by decide)) (by rfl) T.g_three_by T.F_three_by.kp T.b_three_by .nil pass0 (pa_cons (pv 0) (pa_cons (pe_ifExp (pt_cmpR op_le (pv 1) (pv 0) (nomark _)) (pv 1) (pe_call (ok_at_place T) (hr.mono (by decide)) (by rfl) T.g_at_place T.F_at_place.kp T.b_at_place .nil pass0 (pa_cons (pv 0) (pa_cons (pe_op op_sub (pe_op op_sub (pv 1) (pv 0)) pe_int) pa_nil)))) pa_nil))))))), ?_⟩
    rcases h with ⟨l, n, rfl, rfl, hl, h1, h2, k⟩ | hx | ⟨l, rfl, hl, hb, k⟩
    · refine q_drop (ev_call (ea_cons (ev_var rfl) ea_nil) (v_asked_row (T := T) hl)) fun H1 e1 => ?_
      refine q_when (b := false) (et_is (et_or (et_not (et_B (ev_call (ea_cons (ev_var rfl) ea_nil) (v_is_number (Num.int n))))) fun _ => et_not (et_test (ev_chain ev_c (ev_var rfl) rv_I0 (fun _ => by walk_at "ev") fun _ => rv_I0))) ?_) (fun z => nomatch z) fun _ H2 e2 => ?_
      · rw [decide_eq_true h1, decide_eq_true h2]
        rfl
      · have b := bas_rng hl h1 h2
        refine s_retL (el_is (el_call (vs := [.int l, .int (bas l n)]) (ea_cons (ev_var rfl) (ea_cons (ev_is (ev_ifV (w := .int (num l (n - l - 1))) (by walk_at "ev") (fun _ => ev_var rfl) fun z => ?_) ?_) ea_nil)) (v_three_by hl b.1 b.2)) ?_) fun p H3 hp e3 h3 => k.go (e1.trans e2) hp e3 h3
        · have z := of_decide_eq_false z
          exact ev_call (vs := [.int l, .int (n - l - 1)]) (by walk_at "ev") (v_at_place hl (by omega) (by omega))
        · unfold bas
          simp only [decide_eq_true_eq]
          split <;> rfl
        · unfold three
          rw [bas_low b.2]
    · exact ⟨_, rfl, _, rfl, .inr hx⟩
    · refine q_drop (ev_call (ea_cons (ev_var rfl) ea_nil) (v_asked_row (T := T) hl)) fun H1 e1 => ?_
      rcases hb with hb | ⟨n, rfl, hn⟩
      · exact q_when (b := true) (et_is (a := !false || true) (et_or (et_not (et_B (ev_call (ea_cons (ev_var rfl) ea_nil) (v_is_number (hb.ex e1))))) fun z => nomatch z) rfl) (fun _ H2 e2 => k H2 (e1.trans e2)) (fun z => nomatch z)
      · refine q_when (b := true) (et_is (et_or (et_not (et_B (ev_call (ea_cons (ev_var rfl) ea_nil) (v_is_number (Num.int n))))) fun _ => et_not (et_test (ev_chain ev_c (ev_var rfl) rv_I0 (fun _ => by walk_at "ev") fun _ => rv_I0))) ?_) (fun _ H2 e2 => k H2 (e1.trans e2)) (fun z => nomatch z)
        simp only [Bool.not_true, Bool.false_or, Bool.not_eq_true', Bool.and_eq_false_iff, decide_eq_false_iff_not]
        omega
theorem v_three_of {T : Tx K mg} {l n : Int} {H : Hp} (h : Can l) (h1 : 1 ≤ n) (h2 : n ≤ 3 * l) : SpL (sp_three_of T) [.int l, .int n] H ((three l n).map V.int) := fun _ _ _ q _ => ⟨_, _, rfl, .inl ⟨l, n, rfl, rfl, h, h1, h2, q⟩⟩
end
end PA

set_option Elab.async false
set_option linter.all false
set_option maxRecDepth 100000
set_option maxHeartbeats 4000000
namespace PA
open PySem PySem.Spec PyProof.Rows L2 Evl
local macro_rules | `(tactic| walk_at "ev") => `(tactic| repeat' (first | (with_reducible exact ev_c) | (with_reducible refine' ev_var ?_) | (show _ = some (some _); rfl) | (with_reducible exact ea_nil) | (with_reducible refine' ea_cons ?_ ?_) | (with_reducible refine' ev_abs ?_) | (with_reducible refine' ev_op ?_ ?_ ?_) | (with_reducible exact rv_I0) | (exact rv_mulL (by decide)) | (exact rv_mulR (by decide)) | (exact rv_div (by decide)) | (exact rv_mod (by decide)) | (exact rv_pow (by decide)) | (with_reducible refine' ev_un ?_ ?_) | (with_reducible exact ru_neg) | (exact rv_eq rfl) | (exact rv_ne rfl) | (with_reducible refine' et_test ?_) | (with_reducible refine' et_B ?_) | (exact ev_c) | (exact rv_I0) | (exact ea_nil) | (refine' ea_cons ?_ ?_)))
section
variable {P : Program} {w : World} {K : PySem.W.Frag} {mg : Str → Option Value} {base : Heap}
def sp__law_three_right : Sp := fun vs H Q _ => ∃ l n : Int, vs = [.int l, .int n] ∧ Can l ∧ 1 ≤ n ∧ n ≤ 3 * l ∧ RetV (.bl true) H Q
theorem inV_ints (x : Int) (ns : List Int) : inV (.int x) (ns.map V.int) = decide (x ∈ ns) := by
  unfold inV
  rw [List.any_map]
  by_cases h : x ∈ ns
  · rw [decide_eq_true h]
    refine List.any_eq_true.mpr ⟨x, h, ?_⟩
    show (x == x) = true
    exact beq_self_eq_true x
  · rw [decide_eq_false h]
    refine List.any_eq_false.mpr fun y hy => ?_
    show ¬ (y == x) = true
    intro z
    have := eq_of_beq z
    subst this
    exact h hy
theorem flat_ints (ns : List Int) : (ns.map V.int).all flatV = true := List.all_eq_true.mpr fun v hv => by
  obtain ⟨n, _, rfl⟩ := List.mem_map.mp hv
  rfl
theorem ok__law_three_right (T : Tx K mg) : FnOk P w K mg base CX0 6 T.a__law_three_right T.d__law_three_right ["_law_last_here", "_law_number_here"] sp__law_three_right := by
  refine T.F__law_three_right.ok sc__law_three_right (fun vs H Q E h => ?_) (fun cdv A outer s H vs Q E hr h => ?_)
  · obtain ⟨l, n, rfl, _⟩ := h
    rfl
  · obtain ⟨l, n, rfl, hl, h1, h2, k⟩ := h
    refine ⟨_, (pss_cons (ps_set (i := 2) sc__law_three_right.nd rfl (.inl rfl) (pe_call (ok_three_of T) (hr.mono (by decide)) (by rfl) T.g_three_of T.F_three_of.kp T.b_three_of .nil passL (pa_cons (pv 0) (pa_cons (pv 1) pa_nil))))
      (pss_cons (ps_if (PW.pt (pw_or (pt_not (pt_val (pe_callB (r := rIsi K) call_isi (by rfl) T.m_isinstance bt_isinstance (pa_cons (pv 2) (pa_cons (pe_bltn (v := .ty "list") (by rfl) T.m_list bt_list rfl) pa_nil))))) (pw_or (pt_cmpR op_ne (pe_callB (r := rLenS K) call_len_seq (by rfl) T.m_len bt_len (pa_cons (pv 2) pa_nil)) pe_int (nomark _)) (pw_or1 (pt_not (pt_val (pe_callB (r := rAll K) (cr_all rfl) (by rfl) T.m_all bt_all (pa_cons (pe_lc (own := [("_law_one", 5)]) (by rfl) sc__law_three_right.nd (pi_list (pv 2)) (blkOk_by (own := [("_law_one", 5)]) (N := N__law_three_right) (sc := defScope s__law_three_right) (by decide +kernel)) (fun _ _ _ _ _ => (pg_name (i := 5) sc__law_three_right.nd rfl (Or.inl rfl))) (fun _ _ _ _ _ => pts_nil) (fun _ _ _ _ _ => (pe_call (ok__law_whole T) (hr.mono (by decide)) (by rfl) T.g__law_whole T.F__law_whole.kp T.b__law_whole .nil pass0 (pa_cons (pv 5) pa_nil)))) pa_nil)))))))) (pss_one (ps_ret pe_bl)) pss_nil)
      (pss_cons (ps_if (PW.pt (pw_or (pt_cmpR (r := rIn K true) op_notIn_seq (pv 1) (pv 2) (by rfl)) (pw_or1 (pt_not (pt_chainN pe_int (pch_link op_le (pe_ix (r := rIxL K) ix_list (pv 2) pe_int (fun _ _ => rfl)) (pch_link op_le (pv 0) (pch_link op_lt (pe_ix (r := rIxL K) ix_list (pv 2) pe_int (fun _ _ => rfl)) (pch_link op_lt (pe_ix (r := rIxL K) ix_list (pv 2) pe_int (fun _ _ => rfl)) (pch_last op_le (pe_op op_mul pe_int (pv 0)))))))))))) (pss_one (ps_ret pe_bl)) pss_nil)
      (pss_cons (ps_set (i := 3) sc__law_three_right.nd rfl (.inl rfl) (pe_call (ok_places_of T) (hr.mono (by decide)) (by rfl) T.g_places_of T.F_places_of.kp T.b_places_of .nil passL (pa_cons (pv 0) (pa_cons (pe_ix (r := rIxL K) ix_list (pv 2) pe_int (fun _ _ => rfl)) pa_nil))))
      (pss_cons (ps_if (PW.pt (pw_or (pt_cmpR op_ne (pe_op op_add (pe_ix (r := rIxL K) ix_list (pv 2) pe_int (fun _ _ => rfl)) (pe_ix (r := rIxL K) ix_list (pv 2) pe_int (fun _ _ => rfl))) (pe_ix (r := rIxL K) ix_list (pv 2) pe_int (fun _ _ => rfl)) (nomark _)) (pw_or1 (pt_cmpR (r := rNeD K) (op_neD hr.units) (pe_slice (r := rSlL K) sl_list (pv 2) (po_some pe_int) po_none) (pe_lc (own := [("_law_place", 6)]) (by rfl) sc__law_three_right.nd (pi_tup (pv 3)) (blkOk_by (own := [("_law_place", 6)]) (N := N__law_three_right) (sc := defScope s__law_three_right) (by decide +kernel)) (fun _ _ _ _ _ => (pg_name (i := 6) sc__law_three_right.nd rfl (Or.inl rfl))) (fun _ _ _ _ _ => pts_nil) (fun _ _ _ _ _ => (pe_op op_add (pe_op op_add (pv 0) (pv 6)) pe_int))) (nomark _))))) (pss_one (ps_ret pe_bl)) pss_nil)
      (pss_cons (ps_set (i := 4) sc__law_three_right.nd rfl (.inr rfl) (pe_callTy (r := rListS K) call_list_of (by rfl) T.m_list bt_list (pa_cons (pv 2) pa_nil)))
      (pss_cons (ps_expr (pe_bm PySem.F.plainAttrs_list PySem.F.slot_list_append PySem.F.type_list_append mt_append (pv 2) (pa_cons pe_int pa_nil)))
      (pss_one (ps_ret (pe_callB (r := rAll K) (cr_all rfl) (by rfl) T.m_all bt_all (pa_cons (pe_lc (own := [("_law_one", 5)]) (by rfl) sc__law_three_right.nd (pi_list (pv 4)) (blkOk_by (own := [("_law_one", 5)]) (N := N__law_three_right) (sc := defScope s__law_three_right) (by decide +kernel)) (fun _ _ _ _ _ => (pg_name (i := 5) sc__law_three_right.nd rfl (Or.inl rfl))) (fun _ _ _ _ _ => pts_nil) (fun _ _ _ _ _ => (pe_cmpR (r := rEqD K) (op_eqD hr.units) (pe_call (ok_three_of T) (hr.mono (by decide)) (by rfl) T.g_three_of T.F_three_of.kp T.b_three_of .nil passL (pa_cons (pv 0) (pa_cons (pv 5) pa_nil))) (pv 4) (nomark _)))) pa_nil))))))))))), ?_⟩
    have sh := three_shape hl h1 h2
    have hin := three_in hl h1 h2
    have same : ∀ x ∈ three l n, three l x = three l n ∧ 1 ≤ x ∧ x ≤ 3 * l := fun x hx => ⟨three_same hl h1 h2 hx, (bas_of hl h1 h2 hx).2⟩
    have e3 : three l n = [bas l n, l + fst l (bas l n) + 1, l + fst l (bas l n) + 1 + bas l n] := rfl
    refine q_asgL (el_call (vs := [.int l, .int n]) (by walk_at "ev") (v_three_of (T := T) hl h1 h2)) fun p H1 hp e1 hP => ?_
    have hp0 : H p = none := hp
    generalize three l n = xs at *
    generalize bas l n = m at *
    subst e3
    have ix : ∀ (i : Nat) (v : Int) {H2 : Hp} {σ : L2.St}, Ex H1 H2 → σ[2]? = some (some (.ref p)) → ([m, l + fst l m + 1, l + fst l m + 1 + m] : List Int)[i]? = some v → Ev (tOp (rIxL K) (tVar 2) (tC (.int i))) σ H2 (.int v) := fun i v H2 σ e hv hi => ev_op (ev_var hv) ev_c (rv_ixL (sq_of (e _ _ hP)) (atI_nat (j := i) (by rw [List.getElem?_map, hi]; rfl)))
    refine q_when (b := false) (et_is (et_or (et_not (et_B (ev_isi (ea_cons (ev_var rfl) (ea_cons ev_c ea_nil)) (.ty "list") (.base (.lst hP)) (kit_ty (b := "list") (r := true) (by decide +kernel))))) fun _ => et_or (et_test (ev_op (ev_len (ev_var rfl) (sq_of hP)) ev_c (rv_ne rfl))) fun _ =>
      et_not (et_B (ev_allT (el_lcL (xs := ([m, l + fst l m + 1, l + fst l m + 1 + m] : List Int).map V.int) (fun _ => true) (fun _ => .bl true) (ev_var rfl) (sq_of hP) (by show 3 ≤ 40000; decide) (fun _ => rfl) (fun _ _ _ _ _ => et_yes) (fun i x H2 _ hi _ => by rw [getD_of hi]; exact ev_call (by walk_at "ev") v__law_whole))))) rfl) (fun z => nomatch z) fun _ H2 e2 => ?_
    refine q_when (b := false) (et_is (et_or (et_test (ev_op (ev_var rfl) (ev_var rfl) (rv_niL (sq_of (e2 _ _ hP)) rfl (flat_ints _)))) fun _ => et_not (et_chainN ev_c (et_link (ix 0 m e2 rfl rfl) rv_I0 fun _ => et_link (ev_var rfl) rv_I0 fun _ => et_link (ix 1 _ e2 rfl rfl) rv_I0 fun _ => et_link (ix 2 _ e2 rfl rfl) rv_I0 fun _ => et_last (by walk_at "ev") rv_I0))) ?_) (fun z => nomatch z) fun _ H3 e3 => ?_
    · rw [inV_ints, decide_eq_true hin, decide_eq_true sh.1, decide_eq_true sh.2.1, decide_eq_true sh.2.2.1, decide_eq_true sh.2.2.2.1, decide_eq_true sh.2.2.2.2]
      rfl
    refine q_asgU (eu_call (vs := [.int l, .int m]) (ea_cons (ev_var rfl) (ea_cons (ix 0 m (e2.trans e3) rfl rfl) ea_nil)) (v_places_of (T := T) hl sh.1 sh.2.1)) fun c H4 hc e4 hC => ?_
    have e14 := (e2.trans e3).trans e4
    refine q_when (b := false) (et_is (et_or (et_test (ev_op (ev_op (ix 0 m e14 rfl rfl) (ix 1 _ e14 rfl rfl) rv_I0) (ix 2 _ e14 rfl rfl) (rv_ne rfl))) fun _ => et_test (ev_opLL (xs := ([l + fst l m + 1, l + (fst l m + m) + 1] : List Int).map V.int) (ys := ([l + fst l m + 1, l + (fst l m + m) + 1] : List Int).map V.int) (el_is (el_sl (ev_var rfl) (eo_some ev_c) eo_none (sq_of (e14 _ _ hP))) ?_)
      (el_is (el_lcT (xs := ([fst l m, fst l m + m] : List Int).map V.int) (fun _ => true) (fun i => .int (l + ([fst l m, fst l m + m] : List Int).getD i 0 + 1)) (ev_var rfl) (st_of hC) (by show 2 ≤ 40000; decide) (fun _ => rfl) (fun _ _ _ _ _ => et_yes) (fun i x H2 _ hi _ => by rw [getD_of hi]; walk_at "ev")) (by rw [given_all]; rfl))
      fun p q H5 hp hq e5 => rv_neL (sq_of hp) (sq_of hq))) ?_) (fun z => nomatch z) fun _ H5 e5 => ?_
    · show ([l + fst l m + 1, l + fst l m + 1 + m] : List Int).map V.int = _
      rw [show l + fst l m + 1 + m = l + (fst l m + m) + 1 by omega]
    · rw [show m + (l + fst l m + 1) = l + fst l m + 1 + m by omega]
      simp
    refine q_asgL (el_list (ev_var rfl) (sq_of ((e14.trans e5) _ _ hP))) fun b H6 hb e6 h6 => ?_
    have e06 : Ex H H6 := ((e1.trans e14).trans e5).trans e6
    have nbp : b ≠ p := fun z => by rw [z, (e14.trans e5) _ _ hP] at hb; cases hb
    refine q_app ((e14.trans e5).trans e6 _ _ hP) (ev_var rfl) (by walk_at "ev") (by show 3 < 100000; decide) fun H7 e7 => ?_
    have h7 : (upd H7 p (.lst (([m, l + fst l m + 1, l + fst l m + 1 + m] : List Int).map V.int ++ [.int 0]))) b = some (.lst (([m, l + fst l m + 1, l + fst l m + 1 + m] : List Int).map V.int)) := by
      rw [upd_ne nbp]
      exact e7 _ _ h6
    refine s_ret (v := .bl true) (ev_allT (el_lcL (xs := ([m, l + fst l m + 1, l + fst l m + 1 + m] : List Int).map V.int) (fun _ => true) (fun _ => .bl true) (ev_var rfl) (sq_of h7) (by show 3 ≤ 40000; decide) (fun _ => rfl) (fun _ _ _ _ _ => et_yes) (fun i x H8 e8 hi _ => ?_))) fun H9 e9 => k H9 ((Ex.mut (e06.trans e7) hp0).trans e9)
    have hx : ([m, l + fst l m + 1, l + fst l m + 1 + m] : List Int).getD i 0 ∈ ([m, l + fst l m + 1, l + fst l m + 1 + m] : List Int) := getD_mem (by have := lt_of hi; rw [List.length_map] at this; exact this)
    have sm := same _ hx
    rw [getD_of hi]
    generalize ([m, l + fst l m + 1, l + fst l m + 1 + m] : List Int).getD i 0 = y at *
    refine ev_is (ev_opL1 (el_call (vs := [.int l, .int y]) (by walk_at "ev") (v_three_of (T := T) hl sm.2.1 sm.2.2)) (fun _ _ => ev_var rfl) fun p2 H9 h9 e9 => rv_eqL (sq_of h9) (sq_of ((e8.trans e9) _ _ h7))) ?_
    rw [sm.1]
    simp
theorem v__law_three_right {l n : Int} {H : Hp} (h : Can l) (h1 : 1 ≤ n) (h2 : n ≤ 3 * l) : SpV sp__law_three_right [.int l, .int n] H (.bl true) := fun _ _ _ q _ => ⟨l, n, rfl, h, h1, h2, q⟩
/-! ### the law -/
def sp_law (K : PySem.W.Frag) : Sp := fun vs H Q _ => ∃ (a : Addr) (ns : List Int), vs = [.ref a] ∧ SqL K H a (ns.map V.int) ∧ ns.length ≤ 63 ∧ (∀ z ∈ ns, Builtin.Int.intBits z ≤ 1048576) ∧ ∀ H', Q (.bl true) H'
def few (S : Int) : Int := if 1 < (1 + S % 40) % 4 then 1 + S % 40 + 2 else 1 + S % 40
theorem few_can (S : Int) : Can (few S) ∧ few S ≤ 42 := by
  have h0 := Int.emod_nonneg S (show (40 : Int) ≠ 0 by decide)
  have h1 := Int.emod_lt_of_pos S (show (0 : Int) < 40 by decide)
  unfold few Can
  split <;> omega
theorem nums_ok {l d : Int} (hl : Can l) : ∀ n ∈ ([1, l, l + 1, 2 * l, 2 * l + 1, 3 * l] ++ [1 + d % (3 * l), 1 + d / 7 % (3 * l)] : List Int), 1 ≤ n ∧ n ≤ 3 * l := by
  have := hl.1
  have a := Int.emod_nonneg d (show 3 * l ≠ 0 by omega)
  have b := Int.emod_lt_of_pos d (show 0 < 3 * l by omega)
  have a2 := Int.emod_nonneg (d / 7) (show 3 * l ≠ 0 by omega)
  have b2 := Int.emod_lt_of_pos (d / 7) (show 0 < 3 * l by omega)
  intro n hn
  simp only [List.cons_append, List.nil_append, List.mem_cons, List.not_mem_nil, or_false] at hn
  omega
theorem every_sorted {l : Int} (hl : Can l) : ∀ ns' : List Int, ns'.Perm (every l l.toNat) → ns'.Pairwise (· ≤ ·) → ns' = (List.range (3 * l + 1 - 1).toNat).map fun (k : Nat) => 1 + (k : Int) := fun ns' hp hs => by
  refine sorted_eq (hp.trans ((List.perm_ext_iff_of_nodup (every_nodup hl _ (by have := hl.1; omega)) (range_nodup 1 _)).mpr fun x => ?_)) hs (range_sorted 1 _)
  rw [every_all hl, range_mem]
  omega
theorem ok_law (T : Tx K mg) : FnOk P w K mg base CX0 7 T.a_law T.d_law ["_law_script"] (sp_law K) := by
  refine T.F_law.ok sc_law (fun vs H Q E h => ?_) (fun cdv A outer s H vs Q E hr h => ?_)
  · obtain ⟨a, ns, rfl, _⟩ := h
    rfl
  · obtain ⟨a, ns, rfl, hS, hlen, hbits, k⟩ := h
    refine ⟨_, (pss_cons (ps_set (i := 1) sc_law.nd rfl (.inl rfl) (pe_callB (r := rSum K) (cr_sum rfl) (by rfl) T.m_sum bt_sum (pa_cons (pe_slice (r := rSlL K) sl_list (pv 0) po_none (po_some pe_int)) pa_nil)))
      (pss_cons (ps_for PassesOwn.never rfl (pi_range3 (by rfl) T.m_range (pa_cons pe_int (pa_cons (pe_callB (call_min2 rfl) (by rfl) T.m_min bt_min (pa_cons pe_int (pa_cons (pe_callB (r := rLenS K) call_len_seq (by rfl) T.m_len bt_len (pa_cons (pv 0) pa_nil)) pa_nil))) (pa_cons (pe_op op_add pe_int (pe_op op_fdiv (pe_callB (r := rLenS K) call_len_seq (by rfl) T.m_len bt_len (pa_cons (pv 0) pa_nil)) pe_int)) pa_nil)))) (pg_name (i := 2) sc_law.nd rfl (Or.inl rfl))
      (pss_cons (ps_set (i := 3) sc_law.nd rfl (.inr rfl) (pe_call (ok__law_last T) (hr.mono (by decide)) (by rfl) T.g__law_last T.F__law_last.kp T.b__law_last .nil pass0 (pa_cons (pv 0) (pa_cons (pv 2) pa_nil))))
      (pss_cons (ps_set (i := 4) sc_law.nd rfl (.inl rfl) (pe_call (ok__law_number T) (hr.mono (by decide)) (by rfl) T.g__law_number T.F__law_number.kp T.b__law_number .nil pass0 (pa_cons (pe_ix (r := rIxL K) ix_list (pv 0) (pv 2) (fun _ _ => rfl)) (pa_cons (pe_op op_add (pv 2) pe_int) (pa_cons (pv 1) pa_nil)))))
      (pss_cons (ps_set (i := 5) sc_law.nd rfl (.inl rfl) (pe_lst (pa_cons pe_int (pa_cons (pv 3) (pa_cons (pe_op op_add (pv 3) pe_int) (pa_cons (pe_op op_mul pe_int (pv 3)) (pa_cons (pe_op op_add (pe_op op_mul pe_int (pv 3)) pe_int) (pa_cons (pe_op op_mul pe_int (pv 3)) pa_nil))))))))
      (pss_cons (ps_set (i := 5) sc_law.nd rfl (.inl rfl) (pe_op op_cat (pv 5) (pe_lst (pa_cons (pe_op op_add pe_int (pe_op op_mod (pv 4) (pe_op op_mul pe_int (pv 3)))) (pa_cons (pe_op op_add pe_int (pe_op op_mod (pe_op op_fdiv (pv 4) pe_int) (pe_op op_mul pe_int (pv 3)))) pa_nil)))))
      (pss_one (ps_if (pt_not (pt_val (pe_callB (r := rAll K) (cr_all rfl) (by rfl) T.m_all bt_all (pa_cons (pe_lc (own := [("_law_number_here", 8)]) (by rfl) sc_law.nd (pi_list (pv 5)) (blkOk_by (own := [("_law_number_here", 8)]) (N := N_law) (sc := defScope s_law) (by decide +kernel)) (fun _ _ _ _ _ => (pg_name (i := 8) sc_law.nd rfl (Or.inl rfl))) (fun _ _ _ _ _ => pts_nil) (fun _ _ _ _ _ => (pe_call (ok__law_three_right T) (hr.mono (by decide)) (by rfl) T.g__law_three_right T.F__law_three_right.kp T.b__law_three_right .nil pass0 (pa_cons (pv 3) (pa_cons (pv 8) pa_nil))))) pa_nil)))) (pss_one (ps_ret pe_bl)) pss_nil)))))))
      (pss_cons (ps_set (i := 6) sc_law.nd rfl (.inr rfl) (pe_op op_add pe_int (pe_op op_mod (pv 1) pe_int)))
      (pss_cons (ps_set (i := 6) sc_law.nd rfl (.inr rfl) (pe_ifExp (pt_cmpR op_gt (pe_op op_mod (pv 6) pe_int) pe_int (nomark _)) (pe_op op_add (pv 6) pe_int) (pv 6)))
      (pss_cons (ps_set (i := 7) sc_law.nd rfl (.inl rfl) (pe_lst pa_nil))
      (pss_cons (ps_for PassesOwn.never rfl (pi_range2 (by rfl) T.m_range (pa_cons pe_int (pa_cons (pe_op op_add (pv 6) pe_int) pa_nil))) (pg_name (i := 8) sc_law.nd rfl (Or.inl rfl))
      (pss_one (ps_set (i := 7) sc_law.nd rfl (.inl rfl) (pe_op op_cat (pv 7) (pe_call (ok_three_of T) (hr.mono (by decide)) (by rfl) T.g_three_of T.F_three_of.kp T.b_three_of .nil passL (pa_cons (pv 6) (pa_cons (pv 8) pa_nil)))))))
      (pss_cons (ps_if (pt_cmpR (r := rNeD K) (op_neD hr.units) (pe_callB (r := rSortedI K) cr_sortedI (by rfl) T.m_sorted bt_sorted (pa_cons (pv 7) pa_nil)) (pe_listRg (by rfl) (by rfl) T.m_list (prg_2 (by rfl) T.m_range pe_int (pe_op op_add (pe_op op_mul pe_int (pv 6)) pe_int))) (nomark _)) (pss_one (ps_ret pe_bl)) pss_nil)
      (pss_one (ps_ret (pe_and (pe_callB (r := rAll K) (cr_all rfl) (by rfl) T.m_all bt_all (pa_cons (pe_lc (own := [("_law_number_here", 8)]) (by rfl) sc_law.nd (pi_range2 (by rfl) T.m_range (pa_cons pe_int (pa_cons (pe_op op_add (pe_op op_mul pe_int (pv 6)) pe_int) pa_nil))) (blkOk_by (own := [("_law_number_here", 8)]) (N := N_law) (sc := defScope s_law) (by decide +kernel)) (fun _ _ _ _ _ => (pg_name (i := 8) sc_law.nd rfl (Or.inl rfl))) (fun _ _ _ _ _ => pts_nil) (fun _ _ _ _ _ => (pe_call (ok__law_three_right T) (hr.mono (by decide)) (by rfl) T.g__law_three_right T.F__law_three_right.kp T.b__law_three_right .nil pass0 (pa_cons (pv 6) (pa_cons (pv 8) pa_nil))))) pa_nil)) (pe_one (pe_cmpR (r := rEqD K) (op_eqD hr.units) (pe_call (ok_three_of T) (hr.mono (by decide)) (by rfl) T.g_three_of T.F_three_of.kp T.b_three_of .nil passL (pa_cons pe_int (pa_cons pe_int pa_nil))) (pe_lst (pa_cons pe_int (pa_cons pe_int (pa_cons pe_int pa_nil)))) (nomark _))))))))))))), ?_⟩
    have cut : cutV (ns.map V.int) none (some 63) = ns.map V.int := cut_all (by rw [List.length_map]; exact hlen)
    refine q_asg (v := .int ns.sum) (ev_cbL (xs := ns.map V.int) (el_is (el_sl (ev_var rfl) eo_none (eo_some ev_c) hS) cut) fun p H1 h1 e1 => rc_sum (sq_of h1)) fun H1 e1 => ?_
    have S1 := ex_l e1 hS
    have el : (((ns.map V.int).length : Nat) : Int) = (ns.length : Int) := by rw [List.length_map]
    refine q_forR3 (hi := if ((ns.map V.int).length : Int) < 63 then ((ns.map V.int).length : Int) else 63) (c := 1 + ((ns.map V.int).length : Int) / 12)
      (ea_cons ev_c (ea_cons (ev_min2 ev_c (ev_len (ev_var rfl) S1)) (ea_cons (ev_op ev_c (ev_op (ev_len (ev_var rfl) S1) ev_c (rv_div (by decide))) rv_I0) ea_nil))) (by split <;> omega) (by split <;> omega) (by omega) (by omega)
      (fun σ' H' => (∃ y2 y3 y4 y5, σ' = [some (.ref a), some (.int ns.sum), y2, y3, y4, y5, none, none, none]) ∧ Ex H H') (fun H2 e2 => ⟨⟨_, _, _, _, rfl⟩, e1.trans e2⟩) ?_ ?_
    · rintro i σ' H' h0 hi ⟨⟨y2, y3, y4, y5, rfl⟩, e'⟩
      have hi2 : i < ns.length ∧ i < 63 := by
        rw [el] at hi
        split at hi <;> omega
      have S' := ex_l e' hS
      have hl := lawLast_can ns i
      refine q_asg (ev_call (vs := [.ref a, .int i]) (by walk_at "ev") (v__law_last S' hlen hbits h0 (by omega))) fun H2 e2 => ?_
      generalize lawLast ns i = l at hl
      have S3 := ex_l e2 S'
      refine q_asg (ev_call (vs := [.int (ns.getD i.toNat 0), .int (i + 5), .int ns.sum]) (ea_cons (ev_op (ev_var rfl) (ev_var rfl) (rv_ixL S3 (atI_int h0 hi2.1))) (by walk_at "ev")) (v__law_number (by omega) (by omega) (hbits _ (getD_mem (by omega))))) fun H4 e4 => ?_
      generalize lawNum (ns.getD i.toNat 0) (i + 5) ns.sum = d
      have hl0 : 0 < l := hl.1
      have nok := nums_ok (d := d) hl
      refine q_asgL (xs := ([1, l, l + 1, 2 * l, 2 * l + 1, 3 * l] : List Int).map V.int) (el_lst (by walk_at "ev") (by show 6 ≤ 100000; decide)) fun b H5 hb e5 h5 => ?_
      have md : ∀ {σ : L2.St} {H : Hp} {ta tb : TE} {x : Int}, Ev ta σ H (.int x) → Ev tb σ H (.int (3 * l)) → Ev (tOp (rI (fun _ j => 0 < j) fun i j => .int (i % j)) ta tb) σ H (.int (x % (3 * l))) := fun h1 h2 => ev_op h1 h2 (rv_mod (by omega))
      refine q_asgL (xs := ([1, l, l + 1, 2 * l, 2 * l + 1, 3 * l] ++ [1 + d % (3 * l), 1 + d / 7 % (3 * l)] : List Int).map V.int)
        (el_cat (at_old (ev_var rfl) h5) (at_new (el_lst (ea_cons (ev_op ev_c (md (by walk_at "ev") (by walk_at "ev")) rv_I0) (ea_cons (ev_op ev_c (md (by walk_at "ev") (by walk_at "ev")) rv_I0) ea_nil)) (by show 2 ≤ 100000; decide))) (by show 6 + 2 ≤ 100000; decide)) fun c H6 hc e6 h6 => ?_
      have e06 : Ex H H6 := (((e'.trans e2).trans e4).trans e5).trans e6
      have len8 : (([1, l, l + 1, 2 * l, 2 * l + 1, 3 * l] ++ [1 + d % (3 * l), 1 + d / 7 % (3 * l)] : List Int).map V.int).length ≤ 40000 := by show 8 ≤ 40000; decide
      generalize ([1, l, l + 1, 2 * l, 2 * l + 1, 3 * l] ++ [1 + d % (3 * l), 1 + d / 7 % (3 * l)] : List Int) = nums at *
      refine s_when (b := false) (et_is (et_not (et_B (ev_allT (el_lcL (xs := nums.map V.int) (fun _ => true) (fun _ => .bl true) (ev_var rfl) (sq_of h6) len8 (fun _ => rfl) (fun _ _ _ _ _ => et_yes) (fun j x H8 e8 hj _ => ?_))))) rfl) (fun z => nomatch z) fun _ H7 e7 => ⟨⟨_, _, _, _, rfl⟩, e06.trans e7⟩
      have hx := nok _ (getD_mem (by have := lt_of hj; rw [List.length_map] at this; exact this))
      rw [getD_of hj]
      exact ev_call (by walk_at "ev") (v__law_three_right hl hx.1 hx.2)
    · rintro σ' H' ⟨⟨y2, y3, y4, y5, rfl⟩, e'⟩
      have fc := few_can ns.sum
      have f1 := fc.1.1
      refine q_asg (by walk_at "ev") fun H2 e2 => ?_
      refine q_asg (v := .int (few ns.sum)) (ev_is (ev_ifV (by walk_at "ev") (fun _ => by walk_at "ev") fun _ => by walk_at "ev") ?_) fun H3 e3 => ?_
      · unfold few
        simp only [decide_eq_true_eq]
        split <;> rfl
      generalize few ns.sum = l at fc f1
      have hl := fc.1
      refine q_asgL (xs := (every l 0).map V.int) (el_lst (by walk_at "ev") (by show 0 ≤ 100000; decide)) fun b H4 hb e4 h4 => ?_
      refine q_forR2 (lo := 1) (n := l + 1) (by walk_at "ev") (by omega) (fun i σ' H' => (∃ b y8, σ' = [some (.ref a), some (.int ns.sum), y2, y3, y4, y5, some (.int l), some (.ref b), y8] ∧ H' b = some (.lst ((every l i).map V.int))) ∧ Ex H H')
        (fun H5 e5 => ⟨⟨b, _, rfl, e5 _ _ h4⟩, (((e'.trans e2).trans e3).trans e4).trans e5⟩) ?_ ?_
      · rintro i σ' H' hi ⟨⟨b, y8, rfl, hb⟩, e5⟩
        have ei : (1 : Int) + i = (i : Int) + 1 := by omega
        refine s_asgL (xs := (every l (i + 1)).map V.int) (el_is (el_cat (at_old (ev_var rfl) hb) (at_new (el_call (vs := [.int l, .int (1 + i)]) (by walk_at "ev") (v_three_of (T := T) hl (by omega) (by omega)))) ?_) ?_) fun c H6 hc e6 h6 => ⟨⟨c, _, rfl, h6⟩, e5.trans e6⟩
        · rw [List.length_map, every_len]
          show 3 * i + 3 ≤ 100000
          omega
        · rw [every_succ, List.map_append, ei]
      · rintro σ' H' ⟨⟨b, y8, rfl, hb⟩, e5⟩
        have el2 : (l + 1 - 1).toNat = l.toNat := by omega
        rw [el2] at hb
        have c1 : Can 1 := ⟨by decide, by decide⟩
        have t13 : three 1 3 = [1, 2, 3] := by decide
        refine q_when (b := false) (et_is (et_test (ev_opLL (el_sorted (ev_var rfl) (sq_of hb) (every_sorted hl)) (el_listRg ev_c (by walk_at "ev") (by decide) (by decide) (by omega) (by omega)) fun p q H6 hp hq e6 => rv_neL (sq_of hp) (sq_of hq))) (by simp)) (fun z => nomatch z) fun _ H6 e6 => ?_
        refine s_ret (v := .bl true) (ev_is (ev_andV (ev_allT (el_lcR2 (fun _ => true) (fun _ => .bl true) (by walk_at "ev") (by omega) (fun _ => rfl) (fun _ _ _ _ => et_yes) (fun i H7 e7 hi _ => ev_call (vs := [.int l, .int (1 + (i : Int))]) (by walk_at "ev") (v__law_three_right hl (by omega) (by omega))))) fun _ =>
          ev_opLL (el_call (by walk_at "ev") (v_three_of (T := T) (n := 3) c1 (by decide) (by decide))) (el_lst (vs := ([1, 2, 3] : List Int).map V.int) (by walk_at "ev") (by show 3 ≤ 100000; decide)) fun p q H8 hp hq e8 => rv_eqL (sq_of hp) (sq_of hq)) ?_) fun H7 _ => k H7
        rw [t13]
        simp
end
end PA

set_option Elab.async false
set_option linter.all false
set_option maxRecDepth 100000
set_option maxHeartbeats 4000000
namespace PA
open PySem PySem.Spec PyProof.Rows L2 Evl
def all_tx {K : PySem.W.Frag} {h : Heap} {mg : Str → Option Value} {f_is_number f_asked_last f_asked_row f_first_by_fours f_first_by_ones f_first_of f_both f_places_of f_at_place f_three_by f_three_of f__law_number f__law_last f__law_whole f__law_three_right f_law e_PairError e_BadLast e_BadNumber e_NoRow e_FIRSTS e_F1 e_F4 e_F5 : Addr} {t_F1 t_F4 t_F5 t_Fa0 t_Fa1 t_Fa2 t_Fa3 t_Fa4 t_Fa5 t_Fa6 t_Fa7 t_Fa8 t_Fa9 : Tok} (X : K.In h) (G : h.Ns mainGlobals mg)
    {oc_is_number kV_is_number dc_is_number pm_is_number cd_is_number ct_is_number : Value} {od_is_number an_is_number : Option Addr} {sl_is_number : Array (Option Value)}
    {oc_asked_last kV_asked_last dc_asked_last pm_asked_last cd_asked_last ct_asked_last : Value} {od_asked_last an_asked_last : Option Addr} {sl_asked_last : Array (Option Value)}
    {oc_asked_row kV_asked_row dc_asked_row pm_asked_row cd_asked_row ct_asked_row : Value} {od_asked_row an_asked_row : Option Addr} {sl_asked_row : Array (Option Value)}
    {oc_first_by_fours kV_first_by_fours dc_first_by_fours pm_first_by_fours cd_first_by_fours ct_first_by_fours : Value} {od_first_by_fours an_first_by_fours : Option Addr} {sl_first_by_fours : Array (Option Value)}
    {oc_first_by_ones kV_first_by_ones dc_first_by_ones pm_first_by_ones cd_first_by_ones ct_first_by_ones : Value} {od_first_by_ones an_first_by_ones : Option Addr} {sl_first_by_ones : Array (Option Value)}
    {oc_first_of kV_first_of dc_first_of pm_first_of cd_first_of ct_first_of : Value} {od_first_of an_first_of : Option Addr} {sl_first_of : Array (Option Value)}
    {oc_both kV_both dc_both pm_both cd_both ct_both : Value} {od_both an_both : Option Addr} {sl_both : Array (Option Value)}
    {oc_places_of kV_places_of dc_places_of pm_places_of cd_places_of ct_places_of : Value} {od_places_of an_places_of : Option Addr} {sl_places_of : Array (Option Value)}
    {oc_at_place kV_at_place dc_at_place pm_at_place cd_at_place ct_at_place : Value} {od_at_place an_at_place : Option Addr} {sl_at_place : Array (Option Value)}
    {oc_three_by kV_three_by dc_three_by pm_three_by cd_three_by ct_three_by : Value} {od_three_by an_three_by : Option Addr} {sl_three_by : Array (Option Value)}
    {oc_three_of kV_three_of dc_three_of pm_three_of cd_three_of ct_three_of : Value} {od_three_of an_three_of : Option Addr} {sl_three_of : Array (Option Value)}
    {oc__law_number kV__law_number dc__law_number pm__law_number cd__law_number ct__law_number : Value} {od__law_number an__law_number : Option Addr} {sl__law_number : Array (Option Value)}
    {oc__law_last kV__law_last dc__law_last pm__law_last cd__law_last ct__law_last : Value} {od__law_last an__law_last : Option Addr} {sl__law_last : Array (Option Value)}
    {oc__law_whole kV__law_whole dc__law_whole pm__law_whole cd__law_whole ct__law_whole : Value} {od__law_whole an__law_whole : Option Addr} {sl__law_whole : Array (Option Value)}
    {oc__law_three_right kV__law_three_right dc__law_three_right pm__law_three_right cd__law_three_right ct__law_three_right : Value} {od__law_three_right an__law_three_right : Option Addr} {sl__law_three_right : Array (Option Value)}
    {oc_law kV_law dc_law pm_law cd_law ct_law : Value} {od_law an_law : Option Addr} {sl_law : Array (Option Value)}
    {n_F n_F1 n_F4 n_F5 : Nat} {dd_F1 dd_F4 dd_F5 : Option Addr} {ss_F1 ss_F4 ss_F5 : Array (Option Value)}
    (a_is_number : PySem.W.nsIn K mainGlobals "is_number" = some (some (.ref f_is_number)))
    (l_is_number : K.lookup f_is_number = some ⟨oc_is_number, od_is_number, .func (PySem.W.fnOf "is_number" "is_number" (defArgs s_is_number) (defBody s_is_number) (defScope s_is_number) .none kV_is_number dc_is_number pm_is_number an_is_number cd_is_number ct_is_number), sl_is_number⟩)
    (c_is_number : PySem.W.codeIn K cd_is_number "is_number" = true)
    (k_is_number : PySem.W.keepIn K (.ref f_is_number) = true)
    (a_asked_last : PySem.W.nsIn K mainGlobals "asked_last" = some (some (.ref f_asked_last)))
    (l_asked_last : K.lookup f_asked_last = some ⟨oc_asked_last, od_asked_last, .func (PySem.W.fnOf "asked_last" "asked_last" (defArgs s_asked_last) (defBody s_asked_last) (defScope s_asked_last) .none kV_asked_last dc_asked_last pm_asked_last an_asked_last cd_asked_last ct_asked_last), sl_asked_last⟩)
    (c_asked_last : PySem.W.codeIn K cd_asked_last "asked_last" = true)
    (k_asked_last : PySem.W.keepIn K (.ref f_asked_last) = true)
    (a_asked_row : PySem.W.nsIn K mainGlobals "asked_row" = some (some (.ref f_asked_row)))
    (l_asked_row : K.lookup f_asked_row = some ⟨oc_asked_row, od_asked_row, .func (PySem.W.fnOf "asked_row" "asked_row" (defArgs s_asked_row) (defBody s_asked_row) (defScope s_asked_row) .none kV_asked_row dc_asked_row pm_asked_row an_asked_row cd_asked_row ct_asked_row), sl_asked_row⟩)
    (c_asked_row : PySem.W.codeIn K cd_asked_row "asked_row" = true)
    (k_asked_row : PySem.W.keepIn K (.ref f_asked_row) = true)
    (a_first_by_fours : PySem.W.nsIn K mainGlobals "first_by_fours" = some (some (.ref f_first_by_fours)))
    (l_first_by_fours : K.lookup f_first_by_fours = some ⟨oc_first_by_fours, od_first_by_fours, .func (PySem.W.fnOf "first_by_fours" "first_by_fours" (defArgs s_first_by_fours) (defBody s_first_by_fours) (defScope s_first_by_fours) .none kV_first_by_fours dc_first_by_fours pm_first_by_fours an_first_by_fours cd_first_by_fours ct_first_by_fours), sl_first_by_fours⟩)
    (c_first_by_fours : PySem.W.codeIn K cd_first_by_fours "first_by_fours" = true)
    (k_first_by_fours : PySem.W.keepIn K (.ref f_first_by_fours) = true)
    (a_first_by_ones : PySem.W.nsIn K mainGlobals "first_by_ones" = some (some (.ref f_first_by_ones)))
    (l_first_by_ones : K.lookup f_first_by_ones = some ⟨oc_first_by_ones, od_first_by_ones, .func (PySem.W.fnOf "first_by_ones" "first_by_ones" (defArgs s_first_by_ones) (defBody s_first_by_ones) (defScope s_first_by_ones) .none kV_first_by_ones dc_first_by_ones pm_first_by_ones an_first_by_ones cd_first_by_ones ct_first_by_ones), sl_first_by_ones⟩)
    (c_first_by_ones : PySem.W.codeIn K cd_first_by_ones "first_by_ones" = true)
    (k_first_by_ones : PySem.W.keepIn K (.ref f_first_by_ones) = true)
    (a_first_of : PySem.W.nsIn K mainGlobals "first_of" = some (some (.ref f_first_of)))
    (l_first_of : K.lookup f_first_of = some ⟨oc_first_of, od_first_of, .func (PySem.W.fnOf "first_of" "first_of" (defArgs s_first_of) (defBody s_first_of) (defScope s_first_of) .none kV_first_of dc_first_of pm_first_of an_first_of cd_first_of ct_first_of), sl_first_of⟩)
    (c_first_of : PySem.W.codeIn K cd_first_of "first_of" = true)
    (k_first_of : PySem.W.keepIn K (.ref f_first_of) = true)
    (a_both : PySem.W.nsIn K mainGlobals "both" = some (some (.ref f_both)))
    (l_both : K.lookup f_both = some ⟨oc_both, od_both, .func (PySem.W.fnOf "both" "both" (defArgs s_both) (defBody s_both) (defScope s_both) .none kV_both dc_both pm_both an_both cd_both ct_both), sl_both⟩)
    (c_both : PySem.W.codeIn K cd_both "both" = true)
    (k_both : PySem.W.keepIn K (.ref f_both) = true)
    (a_places_of : PySem.W.nsIn K mainGlobals "places_of" = some (some (.ref f_places_of)))
    (l_places_of : K.lookup f_places_of = some ⟨oc_places_of, od_places_of, .func (PySem.W.fnOf "places_of" "places_of" (defArgs s_places_of) (defBody s_places_of) (defScope s_places_of) .none kV_places_of dc_places_of pm_places_of an_places_of cd_places_of ct_places_of), sl_places_of⟩)
    (c_places_of : PySem.W.codeIn K cd_places_of "places_of" = true)
    (k_places_of : PySem.W.keepIn K (.ref f_places_of) = true)
    (a_at_place : PySem.W.nsIn K mainGlobals "at_place" = some (some (.ref f_at_place)))
    (l_at_place : K.lookup f_at_place = some ⟨oc_at_place, od_at_place, .func (PySem.W.fnOf "at_place" "at_place" (defArgs s_at_place) (defBody s_at_place) (defScope s_at_place) .none kV_at_place dc_at_place pm_at_place an_at_place cd_at_place ct_at_place), sl_at_place⟩)
    (c_at_place : PySem.W.codeIn K cd_at_place "at_place" = true)
    (k_at_place : PySem.W.keepIn K (.ref f_at_place) = true)
    (a_three_by : PySem.W.nsIn K mainGlobals "three_by" = some (some (.ref f_three_by)))
    (l_three_by : K.lookup f_three_by = some ⟨oc_three_by, od_three_by, .func (PySem.W.fnOf "three_by" "three_by" (defArgs s_three_by) (defBody s_three_by) (defScope s_three_by) .none kV_three_by dc_three_by pm_three_by an_three_by cd_three_by ct_three_by), sl_three_by⟩)
    (c_three_by : PySem.W.codeIn K cd_three_by "three_by" = true)
    (k_three_by : PySem.W.keepIn K (.ref f_three_by) = true)
    (a_three_of : PySem.W.nsIn K mainGlobals "three_of" = some (some (.ref f_three_of)))
    (l_three_of : K.lookup f_three_of = some ⟨oc_three_of, od_three_of, .func (PySem.W.fnOf "three_of" "three_of" (defArgs s_three_of) (defBody s_three_of) (defScope s_three_of) .none kV_three_of dc_three_of pm_three_of an_three_of cd_three_of ct_three_of), sl_three_of⟩)
    (c_three_of : PySem.W.codeIn K cd_three_of "three_of" = true)
    (k_three_of : PySem.W.keepIn K (.ref f_three_of) = true)
    (a__law_number : PySem.W.nsIn K mainGlobals "_law_number" = some (some (.ref f__law_number)))
    (l__law_number : K.lookup f__law_number = some ⟨oc__law_number, od__law_number, .func (PySem.W.fnOf "_law_number" "_law_number" (defArgs s__law_number) (defBody s__law_number) (defScope s__law_number) .none kV__law_number dc__law_number pm__law_number an__law_number cd__law_number ct__law_number), sl__law_number⟩)
    (c__law_number : PySem.W.codeIn K cd__law_number "_law_number" = true)
    (k__law_number : PySem.W.keepIn K (.ref f__law_number) = true)
    (a__law_last : PySem.W.nsIn K mainGlobals "_law_last" = some (some (.ref f__law_last)))
    (l__law_last : K.lookup f__law_last = some ⟨oc__law_last, od__law_last, .func (PySem.W.fnOf "_law_last" "_law_last" (defArgs s__law_last) (defBody s__law_last) (defScope s__law_last) .none kV__law_last dc__law_last pm__law_last an__law_last cd__law_last ct__law_last), sl__law_last⟩)
    (c__law_last : PySem.W.codeIn K cd__law_last "_law_last" = true)
    (k__law_last : PySem.W.keepIn K (.ref f__law_last) = true)
    (a__law_whole : PySem.W.nsIn K mainGlobals "_law_whole" = some (some (.ref f__law_whole)))
    (l__law_whole : K.lookup f__law_whole = some ⟨oc__law_whole, od__law_whole, .func (PySem.W.fnOf "_law_whole" "_law_whole" (defArgs s__law_whole) (defBody s__law_whole) (defScope s__law_whole) .none kV__law_whole dc__law_whole pm__law_whole an__law_whole cd__law_whole ct__law_whole), sl__law_whole⟩)
    (c__law_whole : PySem.W.codeIn K cd__law_whole "_law_whole" = true)
    (k__law_whole : PySem.W.keepIn K (.ref f__law_whole) = true)
    (a__law_three_right : PySem.W.nsIn K mainGlobals "_law_three_right" = some (some (.ref f__law_three_right)))
    (l__law_three_right : K.lookup f__law_three_right = some ⟨oc__law_three_right, od__law_three_right, .func (PySem.W.fnOf "_law_three_right" "_law_three_right" (defArgs s__law_three_right) (defBody s__law_three_right) (defScope s__law_three_right) .none kV__law_three_right dc__law_three_right pm__law_three_right an__law_three_right cd__law_three_right ct__law_three_right), sl__law_three_right⟩)
    (c__law_three_right : PySem.W.codeIn K cd__law_three_right "_law_three_right" = true)
    (k__law_three_right : PySem.W.keepIn K (.ref f__law_three_right) = true)
    (a_law : PySem.W.nsIn K mainGlobals "law" = some (some (.ref f_law)))
    (l_law : K.lookup f_law = some ⟨oc_law, od_law, .func (PySem.W.fnOf "law" "law" (defArgs s_law) (defBody s_law) (defScope s_law) .none kV_law dc_law pm_law an_law cd_law ct_law), sl_law⟩)
    (c_law : PySem.W.codeIn K cd_law "law" = true)
    (k_law : PySem.W.keepIn K (.ref f_law) = true)
    (z_PairError : PySem.W.nsIn K mainGlobals "PairError" = some (some (.ref e_PairError)))
    (x_PairError : PySem.W.excIn K e_PairError [.type "ValueError", .type "Exception", .type "BaseException", .type "object"] "ValueError.__new__" = true)
    (xk_PairError : PySem.W.keepIn K (.ref e_PairError) = true)
    (xs_PairError : PySem.W.subIn K (.ref e_PairError) (.type "BaseException") = some true)
    (xt_PairError : PySem.W.typeIn K (.ref e_PairError) = some (.type "type"))
    (z_BadLast : PySem.W.nsIn K mainGlobals "BadLast" = some (some (.ref e_BadLast)))
    (x_BadLast : PySem.W.excIn K e_BadLast [.type "ValueError", .type "Exception", .type "BaseException", .type "object"] "ValueError.__new__" = true)
    (xk_BadLast : PySem.W.keepIn K (.ref e_BadLast) = true)
    (xs_BadLast : PySem.W.subIn K (.ref e_BadLast) (.type "BaseException") = some true)
    (xt_BadLast : PySem.W.typeIn K (.ref e_BadLast) = some (.type "type"))
    (z_BadNumber : PySem.W.nsIn K mainGlobals "BadNumber" = some (some (.ref e_BadNumber)))
    (x_BadNumber : PySem.W.excIn K e_BadNumber [.type "ValueError", .type "Exception", .type "BaseException", .type "object"] "ValueError.__new__" = true)
    (xk_BadNumber : PySem.W.keepIn K (.ref e_BadNumber) = true)
    (xs_BadNumber : PySem.W.subIn K (.ref e_BadNumber) (.type "BaseException") = some true)
    (xt_BadNumber : PySem.W.typeIn K (.ref e_BadNumber) = some (.type "type"))
    (z_NoRow : PySem.W.nsIn K mainGlobals "NoRow" = some (some (.ref e_NoRow)))
    (x_NoRow : PySem.W.excIn K e_NoRow [.type "ValueError", .type "Exception", .type "BaseException", .type "object"] "ValueError.__new__" = true)
    (xk_NoRow : PySem.W.keepIn K (.ref e_NoRow) = true)
    (xs_NoRow : PySem.W.subIn K (.ref e_NoRow) (.type "BaseException") = some true)
    (xt_NoRow : PySem.W.typeIn K (.ref e_NoRow) = some (.type "type"))
    (z_FIRSTS : PySem.W.nsIn K mainGlobals "FIRSTS" = some (some (.ref e_FIRSTS)))
    (l_FIRSTS : K.lookup e_FIRSTS = some ⟨.type "dict", none, .dict #[⟨1, .int 1 t_F1, .ref e_F1⟩, ⟨4, .int 4 t_F4, .ref e_F4⟩, ⟨5, .int 5 t_F5, .ref e_F5⟩] n_F, #[]⟩)
    (l_F1 : K.lookup e_F1 = some ⟨.type "tuple", dd_F1, .seq #[.int 1 t_Fa0] n_F1, ss_F1⟩)
    (l_F4 : K.lookup e_F4 = some ⟨.type "tuple", dd_F4, .seq #[.int 1 t_Fa1, .int 5 t_Fa2, .int 3 t_Fa3, .int 4 t_Fa4] n_F4, ss_F4⟩)
    (l_F5 : K.lookup e_F5 = some ⟨.type "tuple", dd_F5, .seq #[.int 8 t_Fa5, .int 3 t_Fa6, .int 1 t_Fa7, .int 6 t_Fa8, .int 2 t_Fa9] n_F5, ss_F5⟩)
    (m_ValueError : PySem.W.nsIn K mainGlobals "ValueError" = some none)
    (m_abs : PySem.W.nsIn K mainGlobals "abs" = some none)
    (m_all : PySem.W.nsIn K mainGlobals "all" = some none)
    (m_bool : PySem.W.nsIn K mainGlobals "bool" = some none)
    (m_int : PySem.W.nsIn K mainGlobals "int" = some none)
    (m_isinstance : PySem.W.nsIn K mainGlobals "isinstance" = some none)
    (m_len : PySem.W.nsIn K mainGlobals "len" = some none)
    (m_list : PySem.W.nsIn K mainGlobals "list" = some none)
    (m_min : PySem.W.nsIn K mainGlobals "min" = some none)
    (m_range : PySem.W.nsIn K mainGlobals "range" = some none)
    (m_sorted : PySem.W.nsIn K mainGlobals "sorted" = some none)
    (m_sum : PySem.W.nsIn K mainGlobals "sum" = some none) : Tx K mg := {
    a_is_number := f_is_number, d_is_number := _, F_is_number := fun_mk (st := s_is_number) l_is_number c_is_number k_is_number, b_is_number := (fun_mk (st := s_is_number) l_is_number c_is_number k_is_number).binds (ps := ["thing"]) fun _ _ _ _ _ _ us hl => match us, hl with | [_], _ => rfl,
    g_is_number := PySem.W.mg_of X G a_is_number,
    a_asked_last := f_asked_last, d_asked_last := _, F_asked_last := fun_mk (st := s_asked_last) l_asked_last c_asked_last k_asked_last, b_asked_last := (fun_mk (st := s_asked_last) l_asked_last c_asked_last k_asked_last).binds (ps := ["last"]) fun _ _ _ _ _ _ us hl => match us, hl with | [_], _ => rfl,
    g_asked_last := PySem.W.mg_of X G a_asked_last,
    a_asked_row := f_asked_row, d_asked_row := _, F_asked_row := fun_mk (st := s_asked_row) l_asked_row c_asked_row k_asked_row, b_asked_row := (fun_mk (st := s_asked_row) l_asked_row c_asked_row k_asked_row).binds (ps := ["last"]) fun _ _ _ _ _ _ us hl => match us, hl with | [_], _ => rfl,
    g_asked_row := PySem.W.mg_of X G a_asked_row,
    a_first_by_fours := f_first_by_fours, d_first_by_fours := _, F_first_by_fours := fun_mk (st := s_first_by_fours) l_first_by_fours c_first_by_fours k_first_by_fours, b_first_by_fours := (fun_mk (st := s_first_by_fours) l_first_by_fours c_first_by_fours k_first_by_fours).binds (ps := ["part", "number"]) fun _ _ _ _ _ _ us hl => match us, hl with | [_, _], _ => rfl,
    g_first_by_fours := PySem.W.mg_of X G a_first_by_fours,
    a_first_by_ones := f_first_by_ones, d_first_by_ones := _, F_first_by_ones := fun_mk (st := s_first_by_ones) l_first_by_ones c_first_by_ones k_first_by_ones, b_first_by_ones := (fun_mk (st := s_first_by_ones) l_first_by_ones c_first_by_ones k_first_by_ones).binds (ps := ["part", "number"]) fun _ _ _ _ _ _ us hl => match us, hl with | [_, _], _ => rfl,
    g_first_by_ones := PySem.W.mg_of X G a_first_by_ones,
    a_first_of := f_first_of, d_first_of := _, F_first_of := fun_mk (st := s_first_of) l_first_of c_first_of k_first_of, b_first_of := (fun_mk (st := s_first_of) l_first_of c_first_of k_first_of).binds (ps := ["last", "number"]) fun _ _ _ _ _ _ us hl => match us, hl with | [_, _], _ => rfl,
    g_first_of := PySem.W.mg_of X G a_first_of,
    a_both := f_both, d_both := _, F_both := fun_mk (st := s_both) l_both c_both k_both, b_both := (fun_mk (st := s_both) l_both c_both k_both).binds (ps := ["last", "number"]) fun _ _ _ _ _ _ us hl => match us, hl with | [_, _], _ => rfl,
    g_both := PySem.W.mg_of X G a_both,
    a_places_of := f_places_of, d_places_of := _, F_places_of := fun_mk (st := s_places_of) l_places_of c_places_of k_places_of, b_places_of := (fun_mk (st := s_places_of) l_places_of c_places_of k_places_of).binds (ps := ["last", "number"]) fun _ _ _ _ _ _ us hl => match us, hl with | [_, _], _ => rfl,
    g_places_of := PySem.W.mg_of X G a_places_of,
    a_at_place := f_at_place, d_at_place := _, F_at_place := fun_mk (st := s_at_place) l_at_place c_at_place k_at_place, b_at_place := (fun_mk (st := s_at_place) l_at_place c_at_place k_at_place).binds (ps := ["last", "place"]) fun _ _ _ _ _ _ us hl => match us, hl with | [_, _], _ => rfl,
    g_at_place := PySem.W.mg_of X G a_at_place,
    a_three_by := f_three_by, d_three_by := _, F_three_by := fun_mk (st := s_three_by) l_three_by c_three_by k_three_by, b_three_by := (fun_mk (st := s_three_by) l_three_by c_three_by k_three_by).binds (ps := ["last", "number"]) fun _ _ _ _ _ _ us hl => match us, hl with | [_, _], _ => rfl,
    g_three_by := PySem.W.mg_of X G a_three_by,
    a_three_of := f_three_of, d_three_of := _, F_three_of := fun_mk (st := s_three_of) l_three_of c_three_of k_three_of, b_three_of := (fun_mk (st := s_three_of) l_three_of c_three_of k_three_of).binds (ps := ["last", "number"]) fun _ _ _ _ _ _ us hl => match us, hl with | [_, _], _ => rfl,
    g_three_of := PySem.W.mg_of X G a_three_of,
    a__law_number := f__law_number, d__law_number := _, F__law_number := fun_mk (st := s__law_number) l__law_number c__law_number k__law_number, b__law_number := (fun_mk (st := s__law_number) l__law_number c__law_number k__law_number).binds (ps := ["_law_cell", "_law_at", "_law_whole_here"]) fun _ _ _ _ _ _ us hl => match us, hl with | [_, _, _], _ => rfl,
    g__law_number := PySem.W.mg_of X G a__law_number,
    a__law_last := f__law_last, d__law_last := _, F__law_last := fun_mk (st := s__law_last) l__law_last c__law_last k__law_last, b__law_last := (fun_mk (st := s__law_last) l__law_last c__law_last k__law_last).binds (ps := ["_law_script", "_law_at"]) fun _ _ _ _ _ _ us hl => match us, hl with | [_, _], _ => rfl,
    g__law_last := PySem.W.mg_of X G a__law_last,
    a__law_whole := f__law_whole, d__law_whole := _, F__law_whole := fun_mk (st := s__law_whole) l__law_whole c__law_whole k__law_whole, b__law_whole := (fun_mk (st := s__law_whole) l__law_whole c__law_whole k__law_whole).binds (ps := ["_law_number_here"]) fun _ _ _ _ _ _ us hl => match us, hl with | [_], _ => rfl,
    g__law_whole := PySem.W.mg_of X G a__law_whole,
    a__law_three_right := f__law_three_right, d__law_three_right := _, F__law_three_right := fun_mk (st := s__law_three_right) l__law_three_right c__law_three_right k__law_three_right, b__law_three_right := (fun_mk (st := s__law_three_right) l__law_three_right c__law_three_right k__law_three_right).binds (ps := ["_law_last_here", "_law_number_here"]) fun _ _ _ _ _ _ us hl => match us, hl with | [_, _], _ => rfl,
    g__law_three_right := PySem.W.mg_of X G a__law_three_right,
    a_law := f_law, d_law := _, F_law := fun_mk (st := s_law) l_law c_law k_law, b_law := (fun_mk (st := s_law) l_law c_law k_law).binds (ps := ["_law_script"]) fun _ _ _ _ _ _ us hl => match us, hl with | [_], _ => rfl,
    g_law := PySem.W.mg_of X G a_law,
    c_PairError := e_PairError, g_PairError := PySem.W.mg_of X G z_PairError,
    x_PairError := ⟨x_PairError, xk_PairError, xs_PairError, xt_PairError⟩,
    c_BadLast := e_BadLast, g_BadLast := PySem.W.mg_of X G z_BadLast,
    x_BadLast := ⟨x_BadLast, xk_BadLast, xs_BadLast, xt_BadLast⟩,
    c_BadNumber := e_BadNumber, g_BadNumber := PySem.W.mg_of X G z_BadNumber,
    x_BadNumber := ⟨x_BadNumber, xk_BadNumber, xs_BadNumber, xt_BadNumber⟩,
    c_NoRow := e_NoRow, g_NoRow := PySem.W.mg_of X G z_NoRow,
    x_NoRow := ⟨x_NoRow, xk_NoRow, xs_NoRow, xt_NoRow⟩,
    c_FIRSTS := e_FIRSTS, g_FIRSTS := PySem.W.mg_of X G z_FIRSTS, k_FIRSTS := firsts_mk l_FIRSTS l_F1 l_F4 l_F5,
    m_ValueError := PySem.W.mg_none_of X G m_ValueError,
    m_abs := PySem.W.mg_none_of X G m_abs,
    m_all := PySem.W.mg_none_of X G m_all,
    m_bool := PySem.W.mg_none_of X G m_bool,
    m_int := PySem.W.mg_none_of X G m_int,
    m_isinstance := PySem.W.mg_none_of X G m_isinstance,
    m_len := PySem.W.mg_none_of X G m_len,
    m_list := PySem.W.mg_none_of X G m_list,
    m_min := PySem.W.mg_none_of X G m_min,
    m_range := PySem.W.mg_none_of X G m_range,
    m_sorted := PySem.W.mg_none_of X G m_sorted,
    m_sum := PySem.W.mg_none_of X G m_sum }
theorem all_mk {l : PySem.W.OpenLaw} {w : World} {K : PySem.W.Frag} {h : Heap} {mg : Str → Option Value} {fa f_is_number f_asked_last f_asked_row f_first_by_fours f_first_by_ones f_first_of f_both f_places_of f_at_place f_three_by f_three_of f__law_number f__law_last f__law_whole f__law_three_right f_law e_PairError e_BadLast e_BadNumber e_NoRow e_FIRSTS e_F1 e_F4 e_F5 : Addr} {t_F1 t_F4 t_F5 t_Fa0 t_Fa1 t_Fa2 t_Fa3 t_Fa4 t_Fa5 t_Fa6 t_Fa7 t_Fa8 t_Fa9 : Tok} (X : K.In h) (G : h.Ns mainGlobals mg) (hfa : mg "law" = some (.ref fa))
    {oc_is_number kV_is_number dc_is_number pm_is_number cd_is_number ct_is_number : Value} {od_is_number an_is_number : Option Addr} {sl_is_number : Array (Option Value)}
    {oc_asked_last kV_asked_last dc_asked_last pm_asked_last cd_asked_last ct_asked_last : Value} {od_asked_last an_asked_last : Option Addr} {sl_asked_last : Array (Option Value)}
    {oc_asked_row kV_asked_row dc_asked_row pm_asked_row cd_asked_row ct_asked_row : Value} {od_asked_row an_asked_row : Option Addr} {sl_asked_row : Array (Option Value)}
    {oc_first_by_fours kV_first_by_fours dc_first_by_fours pm_first_by_fours cd_first_by_fours ct_first_by_fours : Value} {od_first_by_fours an_first_by_fours : Option Addr} {sl_first_by_fours : Array (Option Value)}
    {oc_first_by_ones kV_first_by_ones dc_first_by_ones pm_first_by_ones cd_first_by_ones ct_first_by_ones : Value} {od_first_by_ones an_first_by_ones : Option Addr} {sl_first_by_ones : Array (Option Value)}
    {oc_first_of kV_first_of dc_first_of pm_first_of cd_first_of ct_first_of : Value} {od_first_of an_first_of : Option Addr} {sl_first_of : Array (Option Value)}
    {oc_both kV_both dc_both pm_both cd_both ct_both : Value} {od_both an_both : Option Addr} {sl_both : Array (Option Value)}
    {oc_places_of kV_places_of dc_places_of pm_places_of cd_places_of ct_places_of : Value} {od_places_of an_places_of : Option Addr} {sl_places_of : Array (Option Value)}
    {oc_at_place kV_at_place dc_at_place pm_at_place cd_at_place ct_at_place : Value} {od_at_place an_at_place : Option Addr} {sl_at_place : Array (Option Value)}
    {oc_three_by kV_three_by dc_three_by pm_three_by cd_three_by ct_three_by : Value} {od_three_by an_three_by : Option Addr} {sl_three_by : Array (Option Value)}
    {oc_three_of kV_three_of dc_three_of pm_three_of cd_three_of ct_three_of : Value} {od_three_of an_three_of : Option Addr} {sl_three_of : Array (Option Value)}
    {oc__law_number kV__law_number dc__law_number pm__law_number cd__law_number ct__law_number : Value} {od__law_number an__law_number : Option Addr} {sl__law_number : Array (Option Value)}
    {oc__law_last kV__law_last dc__law_last pm__law_last cd__law_last ct__law_last : Value} {od__law_last an__law_last : Option Addr} {sl__law_last : Array (Option Value)}
    {oc__law_whole kV__law_whole dc__law_whole pm__law_whole cd__law_whole ct__law_whole : Value} {od__law_whole an__law_whole : Option Addr} {sl__law_whole : Array (Option Value)}
    {oc__law_three_right kV__law_three_right dc__law_three_right pm__law_three_right cd__law_three_right ct__law_three_right : Value} {od__law_three_right an__law_three_right : Option Addr} {sl__law_three_right : Array (Option Value)}
    {oc_law kV_law dc_law pm_law cd_law ct_law : Value} {od_law an_law : Option Addr} {sl_law : Array (Option Value)}
    {n_F n_F1 n_F4 n_F5 : Nat} {dd_F1 dd_F4 dd_F5 : Option Addr} {ss_F1 ss_F4 ss_F5 : Array (Option Value)}
    (a_is_number : PySem.W.nsIn K mainGlobals "is_number" = some (some (.ref f_is_number)))
    (l_is_number : K.lookup f_is_number = some ⟨oc_is_number, od_is_number, .func (PySem.W.fnOf "is_number" "is_number" (defArgs s_is_number) (defBody s_is_number) (defScope s_is_number) .none kV_is_number dc_is_number pm_is_number an_is_number cd_is_number ct_is_number), sl_is_number⟩)
    (c_is_number : PySem.W.codeIn K cd_is_number "is_number" = true)
    (k_is_number : PySem.W.keepIn K (.ref f_is_number) = true)
    (a_asked_last : PySem.W.nsIn K mainGlobals "asked_last" = some (some (.ref f_asked_last)))
    (l_asked_last : K.lookup f_asked_last = some ⟨oc_asked_last, od_asked_last, .func (PySem.W.fnOf "asked_last" "asked_last" (defArgs s_asked_last) (defBody s_asked_last) (defScope s_asked_last) .none kV_asked_last dc_asked_last pm_asked_last an_asked_last cd_asked_last ct_asked_last), sl_asked_last⟩)
    (c_asked_last : PySem.W.codeIn K cd_asked_last "asked_last" = true)
    (k_asked_last : PySem.W.keepIn K (.ref f_asked_last) = true)
    (a_asked_row : PySem.W.nsIn K mainGlobals "asked_row" = some (some (.ref f_asked_row)))
    (l_asked_row : K.lookup f_asked_row = some ⟨oc_asked_row, od_asked_row, .func (PySem.W.fnOf "asked_row" "asked_row" (defArgs s_asked_row) (defBody s_asked_row) (defScope s_asked_row) .none kV_asked_row dc_asked_row pm_asked_row an_asked_row cd_asked_row ct_asked_row), sl_asked_row⟩)
    (c_asked_row : PySem.W.codeIn K cd_asked_row "asked_row" = true)
    (k_asked_row : PySem.W.keepIn K (.ref f_asked_row) = true)
    (a_first_by_fours : PySem.W.nsIn K mainGlobals "first_by_fours" = some (some (.ref f_first_by_fours)))
    (l_first_by_fours : K.lookup f_first_by_fours = some ⟨oc_first_by_fours, od_first_by_fours, .func (PySem.W.fnOf "first_by_fours" "first_by_fours" (defArgs s_first_by_fours) (defBody s_first_by_fours) (defScope s_first_by_fours) .none kV_first_by_fours dc_first_by_fours pm_first_by_fours an_first_by_fours cd_first_by_fours ct_first_by_fours), sl_first_by_fours⟩)
    (c_first_by_fours : PySem.W.codeIn K cd_first_by_fours "first_by_fours" = true)
    (k_first_by_fours : PySem.W.keepIn K (.ref f_first_by_fours) = true)
    (a_first_by_ones : PySem.W.nsIn K mainGlobals "first_by_ones" = some (some (.ref f_first_by_ones)))
    (l_first_by_ones : K.lookup f_first_by_ones = some ⟨oc_first_by_ones, od_first_by_ones, .func (PySem.W.fnOf "first_by_ones" "first_by_ones" (defArgs s_first_by_ones) (defBody s_first_by_ones) (defScope s_first_by_ones) .none kV_first_by_ones dc_first_by_ones pm_first_by_ones an_first_by_ones cd_first_by_ones ct_first_by_ones), sl_first_by_ones⟩)
    (c_first_by_ones : PySem.W.codeIn K cd_first_by_ones "first_by_ones" = true)
    (k_first_by_ones : PySem.W.keepIn K (.ref f_first_by_ones) = true)
    (a_first_of : PySem.W.nsIn K mainGlobals "first_of" = some (some (.ref f_first_of)))
    (l_first_of : K.lookup f_first_of = some ⟨oc_first_of, od_first_of, .func (PySem.W.fnOf "first_of" "first_of" (defArgs s_first_of) (defBody s_first_of) (defScope s_first_of) .none kV_first_of dc_first_of pm_first_of an_first_of cd_first_of ct_first_of), sl_first_of⟩)
    (c_first_of : PySem.W.codeIn K cd_first_of "first_of" = true)
    (k_first_of : PySem.W.keepIn K (.ref f_first_of) = true)
    (a_both : PySem.W.nsIn K mainGlobals "both" = some (some (.ref f_both)))
    (l_both : K.lookup f_both = some ⟨oc_both, od_both, .func (PySem.W.fnOf "both" "both" (defArgs s_both) (defBody s_both) (defScope s_both) .none kV_both dc_both pm_both an_both cd_both ct_both), sl_both⟩)
    (c_both : PySem.W.codeIn K cd_both "both" = true)
    (k_both : PySem.W.keepIn K (.ref f_both) = true)
    (a_places_of : PySem.W.nsIn K mainGlobals "places_of" = some (some (.ref f_places_of)))
    (l_places_of : K.lookup f_places_of = some ⟨oc_places_of, od_places_of, .func (PySem.W.fnOf "places_of" "places_of" (defArgs s_places_of) (defBody s_places_of) (defScope s_places_of) .none kV_places_of dc_places_of pm_places_of an_places_of cd_places_of ct_places_of), sl_places_of⟩)
    (c_places_of : PySem.W.codeIn K cd_places_of "places_of" = true)
    (k_places_of : PySem.W.keepIn K (.ref f_places_of) = true)
    (a_at_place : PySem.W.nsIn K mainGlobals "at_place" = some (some (.ref f_at_place)))
    (l_at_place : K.lookup f_at_place = some ⟨oc_at_place, od_at_place, .func (PySem.W.fnOf "at_place" "at_place" (defArgs s_at_place) (defBody s_at_place) (defScope s_at_place) .none kV_at_place dc_at_place pm_at_place an_at_place cd_at_place ct_at_place), sl_at_place⟩)
    (c_at_place : PySem.W.codeIn K cd_at_place "at_place" = true)
    (k_at_place : PySem.W.keepIn K (.ref f_at_place) = true)
    (a_three_by : PySem.W.nsIn K mainGlobals "three_by" = some (some (.ref f_three_by)))
    (l_three_by : K.lookup f_three_by = some ⟨oc_three_by, od_three_by, .func (PySem.W.fnOf "three_by" "three_by" (defArgs s_three_by) (defBody s_three_by) (defScope s_three_by) .none kV_three_by dc_three_by pm_three_by an_three_by cd_three_by ct_three_by), sl_three_by⟩)
    (c_three_by : PySem.W.codeIn K cd_three_by "three_by" = true)
    (k_three_by : PySem.W.keepIn K (.ref f_three_by) = true)
    (a_three_of : PySem.W.nsIn K mainGlobals "three_of" = some (some (.ref f_three_of)))
    (l_three_of : K.lookup f_three_of = some ⟨oc_three_of, od_three_of, .func (PySem.W.fnOf "three_of" "three_of" (defArgs s_three_of) (defBody s_three_of) (defScope s_three_of) .none kV_three_of dc_three_of pm_three_of an_three_of cd_three_of ct_three_of), sl_three_of⟩)
    (c_three_of : PySem.W.codeIn K cd_three_of "three_of" = true)
    (k_three_of : PySem.W.keepIn K (.ref f_three_of) = true)
    (a__law_number : PySem.W.nsIn K mainGlobals "_law_number" = some (some (.ref f__law_number)))
    (l__law_number : K.lookup f__law_number = some ⟨oc__law_number, od__law_number, .func (PySem.W.fnOf "_law_number" "_law_number" (defArgs s__law_number) (defBody s__law_number) (defScope s__law_number) .none kV__law_number dc__law_number pm__law_number an__law_number cd__law_number ct__law_number), sl__law_number⟩)
    (c__law_number : PySem.W.codeIn K cd__law_number "_law_number" = true)
    (k__law_number : PySem.W.keepIn K (.ref f__law_number) = true)
    (a__law_last : PySem.W.nsIn K mainGlobals "_law_last" = some (some (.ref f__law_last)))
    (l__law_last : K.lookup f__law_last = some ⟨oc__law_last, od__law_last, .func (PySem.W.fnOf "_law_last" "_law_last" (defArgs s__law_last) (defBody s__law_last) (defScope s__law_last) .none kV__law_last dc__law_last pm__law_last an__law_last cd__law_last ct__law_last), sl__law_last⟩)
    (c__law_last : PySem.W.codeIn K cd__law_last "_law_last" = true)
    (k__law_last : PySem.W.keepIn K (.ref f__law_last) = true)
    (a__law_whole : PySem.W.nsIn K mainGlobals "_law_whole" = some (some (.ref f__law_whole)))
    (l__law_whole : K.lookup f__law_whole = some ⟨oc__law_whole, od__law_whole, .func (PySem.W.fnOf "_law_whole" "_law_whole" (defArgs s__law_whole) (defBody s__law_whole) (defScope s__law_whole) .none kV__law_whole dc__law_whole pm__law_whole an__law_whole cd__law_whole ct__law_whole), sl__law_whole⟩)
    (c__law_whole : PySem.W.codeIn K cd__law_whole "_law_whole" = true)
    (k__law_whole : PySem.W.keepIn K (.ref f__law_whole) = true)
    (a__law_three_right : PySem.W.nsIn K mainGlobals "_law_three_right" = some (some (.ref f__law_three_right)))
    (l__law_three_right : K.lookup f__law_three_right = some ⟨oc__law_three_right, od__law_three_right, .func (PySem.W.fnOf "_law_three_right" "_law_three_right" (defArgs s__law_three_right) (defBody s__law_three_right) (defScope s__law_three_right) .none kV__law_three_right dc__law_three_right pm__law_three_right an__law_three_right cd__law_three_right ct__law_three_right), sl__law_three_right⟩)
    (c__law_three_right : PySem.W.codeIn K cd__law_three_right "_law_three_right" = true)
    (k__law_three_right : PySem.W.keepIn K (.ref f__law_three_right) = true)
    (a_law : PySem.W.nsIn K mainGlobals "law" = some (some (.ref f_law)))
    (l_law : K.lookup f_law = some ⟨oc_law, od_law, .func (PySem.W.fnOf "law" "law" (defArgs s_law) (defBody s_law) (defScope s_law) .none kV_law dc_law pm_law an_law cd_law ct_law), sl_law⟩)
    (c_law : PySem.W.codeIn K cd_law "law" = true)
    (k_law : PySem.W.keepIn K (.ref f_law) = true)
    (z_PairError : PySem.W.nsIn K mainGlobals "PairError" = some (some (.ref e_PairError)))
    (x_PairError : PySem.W.excIn K e_PairError [.type "ValueError", .type "Exception", .type "BaseException", .type "object"] "ValueError.__new__" = true)
    (xk_PairError : PySem.W.keepIn K (.ref e_PairError) = true)
    (xs_PairError : PySem.W.subIn K (.ref e_PairError) (.type "BaseException") = some true)
    (xt_PairError : PySem.W.typeIn K (.ref e_PairError) = some (.type "type"))
    (z_BadLast : PySem.W.nsIn K mainGlobals "BadLast" = some (some (.ref e_BadLast)))
    (x_BadLast : PySem.W.excIn K e_BadLast [.type "ValueError", .type "Exception", .type "BaseException", .type "object"] "ValueError.__new__" = true)
    (xk_BadLast : PySem.W.keepIn K (.ref e_BadLast) = true)
    (xs_BadLast : PySem.W.subIn K (.ref e_BadLast) (.type "BaseException") = some true)
    (xt_BadLast : PySem.W.typeIn K (.ref e_BadLast) = some (.type "type"))
    (z_BadNumber : PySem.W.nsIn K mainGlobals "BadNumber" = some (some (.ref e_BadNumber)))
    (x_BadNumber : PySem.W.excIn K e_BadNumber [.type "ValueError", .type "Exception", .type "BaseException", .type "object"] "ValueError.__new__" = true)
    (xk_BadNumber : PySem.W.keepIn K (.ref e_BadNumber) = true)
    (xs_BadNumber : PySem.W.subIn K (.ref e_BadNumber) (.type "BaseException") = some true)
    (xt_BadNumber : PySem.W.typeIn K (.ref e_BadNumber) = some (.type "type"))
    (z_NoRow : PySem.W.nsIn K mainGlobals "NoRow" = some (some (.ref e_NoRow)))
    (x_NoRow : PySem.W.excIn K e_NoRow [.type "ValueError", .type "Exception", .type "BaseException", .type "object"] "ValueError.__new__" = true)
    (xk_NoRow : PySem.W.keepIn K (.ref e_NoRow) = true)
    (xs_NoRow : PySem.W.subIn K (.ref e_NoRow) (.type "BaseException") = some true)
    (xt_NoRow : PySem.W.typeIn K (.ref e_NoRow) = some (.type "type"))
    (z_FIRSTS : PySem.W.nsIn K mainGlobals "FIRSTS" = some (some (.ref e_FIRSTS)))
    (l_FIRSTS : K.lookup e_FIRSTS = some ⟨.type "dict", none, .dict #[⟨1, .int 1 t_F1, .ref e_F1⟩, ⟨4, .int 4 t_F4, .ref e_F4⟩, ⟨5, .int 5 t_F5, .ref e_F5⟩] n_F, #[]⟩)
    (l_F1 : K.lookup e_F1 = some ⟨.type "tuple", dd_F1, .seq #[.int 1 t_Fa0] n_F1, ss_F1⟩)
    (l_F4 : K.lookup e_F4 = some ⟨.type "tuple", dd_F4, .seq #[.int 1 t_Fa1, .int 5 t_Fa2, .int 3 t_Fa3, .int 4 t_Fa4] n_F4, ss_F4⟩)
    (l_F5 : K.lookup e_F5 = some ⟨.type "tuple", dd_F5, .seq #[.int 8 t_Fa5, .int 3 t_Fa6, .int 1 t_Fa7, .int 6 t_Fa8, .int 2 t_Fa9] n_F5, ss_F5⟩)
    (m_ValueError : PySem.W.nsIn K mainGlobals "ValueError" = some none)
    (m_abs : PySem.W.nsIn K mainGlobals "abs" = some none)
    (m_all : PySem.W.nsIn K mainGlobals "all" = some none)
    (m_bool : PySem.W.nsIn K mainGlobals "bool" = some none)
    (m_int : PySem.W.nsIn K mainGlobals "int" = some none)
    (m_isinstance : PySem.W.nsIn K mainGlobals "isinstance" = some none)
    (m_len : PySem.W.nsIn K mainGlobals "len" = some none)
    (m_list : PySem.W.nsIn K mainGlobals "list" = some none)
    (m_min : PySem.W.nsIn K mainGlobals "min" = some none)
    (m_range : PySem.W.nsIn K mainGlobals "range" = some none)
    (m_sorted : PySem.W.nsIn K mainGlobals "sorted" = some none)
    (m_sum : PySem.W.nsIn K mainGlobals "sum" = some none) :
    ∃ fd : FuncData, (∀ (s : Shared) (v : Value), BindsTo s fd ⟨[v], []⟩ [("_law_script", v)]) ∧ ∀ base : Heap, K.In base → base.Ns mainGlobals mg → FnOk l.prog w K mg base CX0 7 fa fd ["_law_script"] (sp_law K) := by
  have e := hfa.symm.trans (PySem.W.mg_of X G a_law)
  cases e
  exact ⟨PySem.W.fnOf "law" "law" (defArgs s_law) (defBody s_law) (defScope s_law) .none kV_law dc_law pm_law an_law cd_law ct_law, fun s v => .of_eq rfl, fun base _ _ => ok_law (all_tx X G a_is_number l_is_number c_is_number k_is_number a_asked_last l_asked_last c_asked_last k_asked_last a_asked_row l_asked_row c_asked_row k_asked_row a_first_by_fours l_first_by_fours c_first_by_fours k_first_by_fours a_first_by_ones l_first_by_ones c_first_by_ones k_first_by_ones a_first_of l_first_of c_first_of k_first_of a_both l_both c_both k_both a_places_of l_places_of c_places_of k_places_of a_at_place l_at_place c_at_place k_at_place a_three_by l_three_by c_three_by k_three_by a_three_of l_three_of c_three_of k_three_of a__law_number l__law_number c__law_number k__law_number a__law_last l__law_last c__law_last k__law_last a__law_whole l__law_whole c__law_whole k__law_whole a__law_three_right l__law_three_right c__law_three_right k__law_three_right a_law l_law c_law k_law z_PairError x_PairError xk_PairError xs_PairError xt_PairError z_BadLast x_BadLast xk_BadLast xs_BadLast xt_BadLast z_BadNumber x_BadNumber xk_BadNumber xs_BadNumber xt_BadNumber z_NoRow x_NoRow xk_NoRow xs_NoRow xt_NoRow z_FIRSTS l_FIRSTS l_F1 l_F4 l_F5 m_ValueError m_abs m_all m_bool m_int m_isinstance m_len m_list m_min m_range m_sorted m_sum)⟩
end PA
open PySem PySem.W PyProof.Rows
set_option maxRecDepth 100000 in
set_option maxHeartbeats 0 in
theorem PySem.Challenge.cw_pairsapart_k03_whole_threes_holds : PySem.Challenge.rw_pairsapart_k03_whole_threes.Holds := by
  w_on; o_law; k_head; (case hw => w_witness2)
  k_fill
  refine L2.walk_ofB (l := PySem.Challenge.rw_pairsapart_k03_whole_threes) (n := 63) (k := 7) (x := "_law_script") (CX := fun _ => L2.CX0) (sp := fun w => PA.sp_law _) rfl (by decide) rfl ⟨rfl, by decide, by decide⟩ (fun w h Y => PySem.W.kIn_of Y) ?F (fun _ _ a ns hl hb _ hS => ⟨a, ns, rfl, hS, hl, hb, fun _ => rfl⟩) (fun _ _ _ _ _ h => h)
  case F =>
    intro w mg fa h KX G hmg
    refine' PA.all_mk KX G hmg ?a_is_number ?l_is_number ?c_is_number ?k_is_number ?a_asked_last ?l_asked_last ?c_asked_last ?k_asked_last ?a_asked_row ?l_asked_row ?c_asked_row ?k_asked_row ?a_first_by_fours ?l_first_by_fours ?c_first_by_fours ?k_first_by_fours ?a_first_by_ones ?l_first_by_ones ?c_first_by_ones ?k_first_by_ones ?a_first_of ?l_first_of ?c_first_of ?k_first_of ?a_both ?l_both ?c_both ?k_both ?a_places_of ?l_places_of ?c_places_of ?k_places_of ?a_at_place ?l_at_place ?c_at_place ?k_at_place ?a_three_by ?l_three_by ?c_three_by ?k_three_by ?a_three_of ?l_three_of ?c_three_of ?k_three_of ?a__law_number ?l__law_number ?c__law_number ?k__law_number ?a__law_last ?l__law_last ?c__law_last ?k__law_last ?a__law_whole ?l__law_whole ?c__law_whole ?k__law_whole ?a__law_three_right ?l__law_three_right ?c__law_three_right ?k__law_three_right ?a_law ?l_law ?c_law ?k_law ?z_PairError ?x_PairError ?xk_PairError ?xs_PairError ?xt_PairError ?z_BadLast ?x_BadLast ?xk_BadLast ?xs_BadLast ?xt_BadLast ?z_BadNumber ?x_BadNumber ?xk_BadNumber ?xs_BadNumber ?xt_BadNumber ?z_NoRow ?x_NoRow ?xk_NoRow ?xs_NoRow ?xt_NoRow ?z_FIRSTS ?l_FIRSTS ?l_F1 ?l_F4 ?l_F5 ?m_ValueError ?m_abs ?m_all ?m_bool ?m_int ?m_isinstance ?m_len ?m_list ?m_min ?m_range ?m_sorted ?m_sum
    (case a_is_number => k_is)
    (case l_is_number => k_is)
    (case c_is_number => k_is)
    (case k_is_number => k_is)
    (case a_asked_last => k_is)
    (case l_asked_last => k_is)
    (case c_asked_last => k_is)
    (case k_asked_last => k_is)
    (case a_asked_row => k_is)
    (case l_asked_row => k_is)
    (case c_asked_row => k_is)
    (case k_asked_row => k_is)
    (case a_first_by_fours => k_is)
    (case l_first_by_fours => k_is)
    (case c_first_by_fours => k_is)
    (case k_first_by_fours => k_is)
    (case a_first_by_ones => k_is)
    (case l_first_by_ones => k_is)
    (case c_first_by_ones => k_is)
    (case k_first_by_ones => k_is)
    (case a_first_of => k_is)
    (case l_first_of => k_is)
    (case c_first_of => k_is)
    (case k_first_of => k_is)
    (case a_both => k_is)
    (case l_both => k_is)
    (case c_both => k_is)
    (case k_both => k_is)
    (case a_places_of => k_is)
    (case l_places_of => k_is)
    (case c_places_of => k_is)
    (case k_places_of => k_is)
    (case a_at_place => k_is)
    (case l_at_place => k_is)
    (case c_at_place => k_is)
    (case k_at_place => k_is)
    (case a_three_by => k_is)
    (case l_three_by => k_is)
    (case c_three_by => k_is)
    (case k_three_by => k_is)
    (case a_three_of => k_is)
    (case l_three_of => k_is)
    (case c_three_of => k_is)
    (case k_three_of => k_is)
    (case a__law_number => k_is)
    (case l__law_number => k_is)
    (case c__law_number => k_is)
    (case k__law_number => k_is)
    (case a__law_last => k_is)
    (case l__law_last => k_is)
    (case c__law_last => k_is)
    (case k__law_last => k_is)
    (case a__law_whole => k_is)
    (case l__law_whole => k_is)
    (case c__law_whole => k_is)
    (case k__law_whole => k_is)
    (case a__law_three_right => k_is)
    (case l__law_three_right => k_is)
    (case c__law_three_right => k_is)
    (case k__law_three_right => k_is)
    (case a_law => k_is)
    (case l_law => k_is)
    (case c_law => k_is)
    (case k_law => k_is)
    (case z_PairError => k_is)
    (case x_PairError => k_exc)
    (case xk_PairError => k_is)
    (case xs_PairError => k_is)
    (case xt_PairError => k_is)
    (case z_BadLast => k_is)
    (case x_BadLast => k_exc)
    (case xk_BadLast => k_is)
    (case xs_BadLast => k_is)
    (case xt_BadLast => k_is)
    (case z_BadNumber => k_is)
    (case x_BadNumber => k_exc)
    (case xk_BadNumber => k_is)
    (case xs_BadNumber => k_is)
    (case xt_BadNumber => k_is)
    (case z_NoRow => k_is)
    (case x_NoRow => k_exc)
    (case xk_NoRow => k_is)
    (case xs_NoRow => k_is)
    (case xt_NoRow => k_is)
    (case z_FIRSTS => k_is)
    (case l_FIRSTS => k_is)
    (case l_F1 => k_is)
    (case l_F4 => k_is)
    (case l_F5 => k_is)
    (case m_ValueError => k_is)
    (case m_abs => k_is)
    (case m_all => k_is)
    (case m_bool => k_is)
    (case m_int => k_is)
    (case m_isinstance => k_is)
    (case m_len => k_is)
    (case m_list => k_is)
    (case m_min => k_is)
    (case m_range => k_is)
    (case m_sorted => k_is)
    (case m_sum => k_is)

