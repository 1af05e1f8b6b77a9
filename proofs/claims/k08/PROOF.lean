import PyProof.Rows.All
import Wide.All
import OpenK.AllK
import Wide.FinOn
import HandS.ForMost
import HandS.ForExc
import HandS.IsInst
import HandS.Evl
import HandS.WideBits
import HandS.SetFor
import HandS.EndBits
import HandS.TupLe
import HandS.SortInts
import HandS.Conv
import HandS.CallRecv
import HandS.Style
import KE.IntBitsLaws
import HandS.ExcIs
import HandS.ExcOwn
import HandS.Lambda
import HandS.ExcCtx
import HandS.Hot
import HandS.HotCalls
import HandS.Nested
import HandS.EndTab
import HandS.EndOwn
import PySem.Challenge.RW_pairsapart_k08_whole_long
/-! the mathematics of the row: first places, both places, the number at a place -/
set_option maxHeartbeats 4000000
set_option Elab.async false
set_option linter.all false
namespace PA
def f4 (p n : Int) : Int :=
  if n % 2 = 0 then 6 * p - n / 2 else if n = 4 * p - 1 then 2 * p + 1 else if n = 1 then p else if n = 2 * p + 1 then p - 1 else if n = 2 * p - 1 then 2 * p
  else if 2 * p + 1 < n then (4 * p - 1 - n) / 2 else p + 1 + (2 * p - 1 - n) / 2
def f1 (p n : Int) : Int :=
  if n % 2 = 0 then 6 * p + 2 - n / 2 else if n = 4 * p + 1 then 2 * p + 1 else if n = 1 then p + 1 else if n = 2 * p - 1 then 2 * p + 2
  else if 2 * p < n then (4 * p + 1 - n) / 2 else p + 2 + (2 * p - 1 - n) / 2
def small (l : Int) : List Int := if l = 1 then [1] else if l = 4 then [1, 5, 3, 4] else if l = 5 then [8, 3, 1, 6, 2] else []
/-- the first place, from 0 on -/
def fst (l n : Int) : Int :=
  if l < 6 then (small l).getD (n - 1).toNat 0 - 1 else if l % 4 = 0 then f4 (l / 4) n - 1 else f1 (l / 4) n - 1
/-- a last number that can -/
def Can (l : Int) : Prop := 1 ≤ l ∧ l % 4 < 2
instance (l : Int) : Decidable (Can l) := inferInstanceAs (Decidable (_ ∧ _))
/-- n is a number of the row to l that stands at the place q -/
def At (l q n : Int) : Prop := (1 ≤ n ∧ n ≤ l) ∧ (q = fst l n ∨ q = fst l n + n)
instance (l q n : Int) : Decidable (At l q n) := inferInstanceAs (Decidable (_ ∧ _))
/-- the candidates at a place -/
def cand (l q : Int) : List Int :=
  [2 * (if q + 1 - (6 * (l / 4) + 2 * (l % 4)) < 0 then -(q + 1 - (6 * (l / 4) + 2 * (l % 4))) else q + 1 - (6 * (l / 4) + 2 * (l % 4))), 1, 2, 3, 4, 5, 2 * (l / 4) - 1, 2 * (l / 4) + 1, 4 * (l / 4) - 1, 4 * (l / 4) + 1,
    4 * (l / 4) + -1 - 2 * (q + 1), 2 * (q + 1) - 4 * (l / 4) - -1, 4 * (l / 4) + 1 - 2 * (q + 1), 2 * (q + 1) - 4 * (l / 4) - 1, 4 * (l / 4) + 3 - 2 * (q + 1), 2 * (q + 1) - 4 * (l / 4) - 3]
def R4 (p n a : Int) : Prop := ∃ k, (n = 2 * k ∧ a = 6 * p - k ∧ 1 ≤ k ∧ k ≤ 2 * p) ∨ (n = 4 * p - 1 ∧ a = 2 * p + 1) ∨ (n = 1 ∧ a = p) ∨ (n = 2 * p + 1 ∧ a = p - 1) ∨ (n = 2 * p - 1 ∧ a = 2 * p)
  ∨ (n = 4 * p - 1 - 2 * k ∧ a = k ∧ 1 ≤ k ∧ k ≤ p - 2) ∨ (n = 2 * p - 1 - 2 * k ∧ a = p + 1 + k ∧ 1 ≤ k ∧ k ≤ p - 2)
def R1 (p n a : Int) : Prop := ∃ k, (n = 2 * k ∧ a = 6 * p + 2 - k ∧ 1 ≤ k ∧ k ≤ 2 * p) ∨ (n = 4 * p + 1 ∧ a = 2 * p + 1) ∨ (n = 1 ∧ a = p + 1) ∨ (n = 2 * p - 1 ∧ a = 2 * p + 2)
  ∨ (n = 4 * p + 1 - 2 * k ∧ a = k ∧ 1 ≤ k ∧ k ≤ p) ∨ (n = 2 * p - 1 - 2 * k ∧ a = p + 2 + k ∧ 1 ≤ k ∧ k ≤ p - 2)
theorem f4_R {p n : Int} (hp : 2 ≤ p) (h1 : 1 ≤ n) (h2 : n ≤ 4 * p) : R4 p n (f4 p n) := by
  unfold f4
  by_cases a : n % 2 = 0
  · rw [if_pos a]; exact ⟨n / 2, .inl (by omega)⟩
  rw [if_neg a]
  by_cases b : n = 4 * p - 1
  · rw [if_pos b]; exact ⟨0, .inr (.inl ⟨b, rfl⟩)⟩
  rw [if_neg b]
  by_cases c : n = 1
  · rw [if_pos c]; exact ⟨0, .inr (.inr (.inl ⟨c, rfl⟩))⟩
  rw [if_neg c]
  by_cases d : n = 2 * p + 1
  · rw [if_pos d]; exact ⟨0, .inr (.inr (.inr (.inl ⟨d, rfl⟩)))⟩
  rw [if_neg d]
  by_cases e : n = 2 * p - 1
  · rw [if_pos e]; exact ⟨0, .inr (.inr (.inr (.inr (.inl ⟨e, rfl⟩))))⟩
  rw [if_neg e]
  by_cases f : 2 * p + 1 < n
  · rw [if_pos f]; exact ⟨(4 * p - 1 - n) / 2, .inr (.inr (.inr (.inr (.inr (.inl ⟨by omega, rfl, by omega, by omega⟩)))))⟩
  · rw [if_neg f]; exact ⟨(2 * p - 1 - n) / 2, .inr (.inr (.inr (.inr (.inr (.inr ⟨by omega, rfl, by omega, by omega⟩)))))⟩
theorem f1_R {p n : Int} (hp : 2 ≤ p) (h1 : 1 ≤ n) (h2 : n ≤ 4 * p + 1) : R1 p n (f1 p n) := by
  unfold f1
  by_cases a : n % 2 = 0
  · rw [if_pos a]; exact ⟨n / 2, .inl (by omega)⟩
  rw [if_neg a]
  by_cases b : n = 4 * p + 1
  · rw [if_pos b]; exact ⟨0, .inr (.inl ⟨b, rfl⟩)⟩
  rw [if_neg b]
  by_cases c : n = 1
  · rw [if_pos c]; exact ⟨0, .inr (.inr (.inl ⟨c, rfl⟩))⟩
  rw [if_neg c]
  by_cases e : n = 2 * p - 1
  · rw [if_pos e]; exact ⟨0, .inr (.inr (.inr (.inl ⟨e, rfl⟩)))⟩
  rw [if_neg e]
  by_cases f : 2 * p < n
  · rw [if_pos f]; exact ⟨(4 * p + 1 - n) / 2, .inr (.inr (.inr (.inr (.inl ⟨by omega, rfl, by omega, by omega⟩))))⟩
  · rw [if_neg f]; exact ⟨(2 * p - 1 - n) / 2, .inr (.inr (.inr (.inr (.inr ⟨by omega, rfl, by omega, by omega⟩))))⟩
theorem R4_fun {p n a b : Int} (hp : 2 ≤ p) (h : R4 p n a) (h' : R4 p n b) : a = b := by
  obtain ⟨k, h⟩ := h
  obtain ⟨j, h'⟩ := h'
  rcases h with h | h | h | h | h | h | h <;> rcases h' with z | z | z | z | z | z | z <;> omega
theorem R1_fun {p n a b : Int} (hp : 2 ≤ p) (h : R1 p n a) (h' : R1 p n b) : a = b := by
  obtain ⟨k, h⟩ := h
  obtain ⟨j, h'⟩ := h'
  rcases h with h | h | h | h | h | h <;> rcases h' with z | z | z | z | z | z <;> omega
theorem R4_rng {p n a : Int} (hp : 2 ≤ p) (h : R4 p n a) : 1 ≤ n ∧ n ≤ 4 * p ∧ 1 ≤ a ∧ a + n ≤ 8 * p := by
  obtain ⟨k, h⟩ := h
  rcases h with h | h | h | h | h | h | h <;> omega
theorem R1_rng {p n a : Int} (hp : 2 ≤ p) (h : R1 p n a) : 1 ≤ n ∧ n ≤ 4 * p + 1 ∧ 1 ≤ a ∧ a + n ≤ 8 * p + 2 := by
  obtain ⟨k, h⟩ := h
  rcases h with h | h | h | h | h | h <;> omega
theorem R4_uniq {p n a m b q : Int} (hp : 2 ≤ p) (h : R4 p n a) (h' : R4 p m b) (hq : q = a ∨ q = a + n) (hq' : q = b ∨ q = b + m) : n = m := by
  obtain ⟨k, h⟩ := h
  obtain ⟨j, h'⟩ := h'
  rcases h with h | h | h | h | h | h | h <;> rcases h' with z | z | z | z | z | z | z <;> rcases hq with x | x <;> rcases hq' with y | y <;> omega
theorem R1_uniq {p n a m b q : Int} (hp : 2 ≤ p) (h : R1 p n a) (h' : R1 p m b) (hq : q = a ∨ q = a + n) (hq' : q = b ∨ q = b + m) : n = m := by
  obtain ⟨k, h⟩ := h
  obtain ⟨j, h'⟩ := h'
  rcases h with h | h | h | h | h | h <;> rcases h' with z | z | z | z | z | z <;> rcases hq with x | x <;> rcases hq' with y | y <;> omega
theorem R4_ex {p q : Int} (hp : 2 ≤ p) (h1 : 1 ≤ q) (h2 : q ≤ 8 * p) : ∃ n a, R4 p n a ∧ (q = a ∨ q = a + n) := by
  by_cases c1 : q ≤ p - 2
  · exact ⟨4 * p - 1 - 2 * q, q, ⟨q, .inr (.inr (.inr (.inr (.inr (.inl ⟨rfl, rfl, h1, c1⟩)))))⟩, .inl rfl⟩
  by_cases c2 : q = p - 1
  · exact ⟨2 * p + 1, p - 1, ⟨0, .inr (.inr (.inr (.inl ⟨rfl, rfl⟩)))⟩, .inl c2⟩
  by_cases c3 : q = p
  · exact ⟨1, p, ⟨0, .inr (.inr (.inl ⟨rfl, rfl⟩))⟩, .inl c3⟩
  by_cases c4 : q = p + 1
  · exact ⟨1, p, ⟨0, .inr (.inr (.inl ⟨rfl, rfl⟩))⟩, .inr c4⟩
  by_cases c5 : q < 2 * p
  · exact ⟨2 * p - 1 - 2 * (q - p - 1), p + 1 + (q - p - 1), ⟨q - p - 1, .inr (.inr (.inr (.inr (.inr (.inr ⟨rfl, rfl, by omega, by omega⟩)))))⟩, .inl (by omega)⟩
  by_cases c6 : q = 2 * p
  · exact ⟨2 * p - 1, 2 * p, ⟨0, .inr (.inr (.inr (.inr (.inl ⟨rfl, rfl⟩))))⟩, .inl c6⟩
  by_cases c7 : q = 2 * p + 1
  · exact ⟨4 * p - 1, 2 * p + 1, ⟨0, .inr (.inl ⟨rfl, rfl⟩)⟩, .inl c7⟩
  by_cases c8 : q < 3 * p
  · exact ⟨2 * p - 1 - 2 * (3 * p - q), p + 1 + (3 * p - q), ⟨3 * p - q, .inr (.inr (.inr (.inr (.inr (.inr ⟨rfl, rfl, by omega, by omega⟩)))))⟩, .inr (by omega)⟩
  by_cases c9 : q = 3 * p
  · exact ⟨2 * p + 1, p - 1, ⟨0, .inr (.inr (.inr (.inl ⟨rfl, rfl⟩)))⟩, .inr (by omega)⟩
  by_cases c10 : q < 4 * p - 1
  · exact ⟨4 * p - 1 - 2 * (4 * p - 1 - q), 4 * p - 1 - q, ⟨4 * p - 1 - q, .inr (.inr (.inr (.inr (.inr (.inl ⟨rfl, rfl, by omega, by omega⟩)))))⟩, .inr (by omega)⟩
  by_cases c11 : q = 4 * p - 1
  · exact ⟨2 * p - 1, 2 * p, ⟨0, .inr (.inr (.inr (.inr (.inl ⟨rfl, rfl⟩))))⟩, .inr (by omega)⟩
  by_cases c12 : q < 6 * p
  · exact ⟨2 * (6 * p - q), 6 * p - (6 * p - q), ⟨6 * p - q, .inl ⟨rfl, rfl, by omega, by omega⟩⟩, .inl (by omega)⟩
  by_cases c13 : q = 6 * p
  · exact ⟨4 * p - 1, 2 * p + 1, ⟨0, .inr (.inl ⟨rfl, rfl⟩)⟩, .inr (by omega)⟩
  · exact ⟨2 * (q - 6 * p), 6 * p - (q - 6 * p), ⟨q - 6 * p, .inl ⟨rfl, rfl, by omega, by omega⟩⟩, .inr (by omega)⟩
theorem R1_ex {p q : Int} (hp : 2 ≤ p) (h1 : 1 ≤ q) (h2 : q ≤ 8 * p + 2) : ∃ n a, R1 p n a ∧ (q = a ∨ q = a + n) := by
  by_cases c1 : q ≤ p
  · exact ⟨4 * p + 1 - 2 * q, q, ⟨q, .inr (.inr (.inr (.inr (.inl ⟨rfl, rfl, h1, c1⟩))))⟩, .inl rfl⟩
  by_cases c3 : q = p + 1
  · exact ⟨1, p + 1, ⟨0, .inr (.inr (.inl ⟨rfl, rfl⟩))⟩, .inl c3⟩
  by_cases c4 : q = p + 2
  · exact ⟨1, p + 1, ⟨0, .inr (.inr (.inl ⟨rfl, rfl⟩))⟩, .inr (by omega)⟩
  by_cases c5 : q < 2 * p + 1
  · exact ⟨2 * p - 1 - 2 * (q - p - 2), p + 2 + (q - p - 2), ⟨q - p - 2, .inr (.inr (.inr (.inr (.inr ⟨rfl, rfl, by omega, by omega⟩))))⟩, .inl (by omega)⟩
  by_cases c6 : q = 2 * p + 1
  · exact ⟨4 * p + 1, 2 * p + 1, ⟨0, .inr (.inl ⟨rfl, rfl⟩)⟩, .inl c6⟩
  by_cases c7 : q = 2 * p + 2
  · exact ⟨2 * p - 1, 2 * p + 2, ⟨0, .inr (.inr (.inr (.inl ⟨rfl, rfl⟩)))⟩, .inl c7⟩
  by_cases c8 : q < 3 * p + 1
  · exact ⟨2 * p - 1 - 2 * (3 * p + 1 - q), p + 2 + (3 * p + 1 - q), ⟨3 * p + 1 - q, .inr (.inr (.inr (.inr (.inr ⟨rfl, rfl, by omega, by omega⟩))))⟩, .inr (by omega)⟩
  by_cases c9 : q < 4 * p + 1
  · exact ⟨4 * p + 1 - 2 * (4 * p + 1 - q), 4 * p + 1 - q, ⟨4 * p + 1 - q, .inr (.inr (.inr (.inr (.inl ⟨rfl, rfl, by omega, by omega⟩))))⟩, .inr (by omega)⟩
  by_cases c11 : q = 4 * p + 1
  · exact ⟨2 * p - 1, 2 * p + 2, ⟨0, .inr (.inr (.inr (.inl ⟨rfl, rfl⟩)))⟩, .inr (by omega)⟩
  by_cases c12 : q < 6 * p + 2
  · exact ⟨2 * (6 * p + 2 - q), 6 * p + 2 - (6 * p + 2 - q), ⟨6 * p + 2 - q, .inl ⟨rfl, rfl, by omega, by omega⟩⟩, .inl (by omega)⟩
  by_cases c13 : q = 6 * p + 2
  · exact ⟨4 * p + 1, 2 * p + 1, ⟨0, .inr (.inl ⟨rfl, rfl⟩)⟩, .inr (by omega)⟩
  · exact ⟨2 * (q - (6 * p + 2)), 6 * p + 2 - (q - (6 * p + 2)), ⟨q - (6 * p + 2), .inl ⟨rfl, rfl, by omega, by omega⟩⟩, .inr (by omega)⟩
theorem mem_ix {l : List Int} (i : Nat) {x n : Int} (h : l[i]? = some x) (e : x = n) : n ∈ l := by
  subst e
  exact List.mem_of_getElem? h
theorem R4_cand {p n a q : Int} (hp : 2 ≤ p) (h : R4 p n a) (hq : q + 1 = a ∨ q + 1 = a + n) : n ∈ cand (4 * p) q := by
  obtain ⟨k, h⟩ := h
  have e : 4 * p / 4 = p := by omega
  have e2 : 4 * p % 4 = 0 := by omega
  unfold cand
  rw [e, e2]
  rcases h with h | h | h | h | h | h | h
  · refine mem_ix 0 rfl ?_
    split <;> omega
  · exact mem_ix 8 rfl (by omega)
  · exact mem_ix 1 rfl (by omega)
  · exact mem_ix 7 rfl (by omega)
  · exact mem_ix 6 rfl (by omega)
  · rcases hq with x | x
    · exact mem_ix 10 rfl (by omega)
    · exact mem_ix 11 rfl (by omega)
  · rcases hq with x | x
    · exact mem_ix 12 rfl (by omega)
    · exact mem_ix 13 rfl (by omega)
theorem R1_cand {p n a q : Int} (hp : 2 ≤ p) (h : R1 p n a) (hq : q + 1 = a ∨ q + 1 = a + n) : n ∈ cand (4 * p + 1) q := by
  obtain ⟨k, h⟩ := h
  have e : (4 * p + 1) / 4 = p := by omega
  have e2 : (4 * p + 1) % 4 = 1 := by omega
  unfold cand
  rw [e, e2]
  rcases h with h | h | h | h | h | h
  · refine mem_ix 0 rfl ?_
    split <;> omega
  · exact mem_ix 9 rfl (by omega)
  · exact mem_ix 1 rfl (by omega)
  · exact mem_ix 6 rfl (by omega)
  · rcases hq with x | x
    · exact mem_ix 12 rfl (by omega)
    · exact mem_ix 13 rfl (by omega)
  · rcases hq with x | x
    · exact mem_ix 14 rfl (by omega)
    · exact mem_ix 15 rfl (by omega)
/-! the three kinds of last numbers -/
theorem can_cases {l : Int} (h : Can l) : l = 1 ∨ l = 4 ∨ l = 5 ∨ (∃ p, 2 ≤ p ∧ l = 4 * p) ∨ ∃ p, 2 ≤ p ∧ l = 4 * p + 1 := by
  obtain ⟨h1, h2⟩ := h
  by_cases a : l < 6
  · have : l = 1 ∨ l = 4 ∨ l = 5 := by omega
    rcases this with e | e | e
    · exact .inl e
    · exact .inr (.inl e)
    · exact .inr (.inr (.inl e))
  · by_cases b : l % 4 = 0
    · exact .inr (.inr (.inr (.inl ⟨l / 4, by omega, by omega⟩)))
    · exact .inr (.inr (.inr (.inr ⟨l / 4, by omega, by omega⟩)))
theorem fst4 {p : Int} (hp : 2 ≤ p) (n : Int) : fst (4 * p) n = f4 p n - 1 := by
  unfold fst
  rw [if_neg (by omega), if_pos (by omega), show 4 * p / 4 = p by omega]
theorem fst1 {p : Int} (hp : 2 ≤ p) (n : Int) : fst (4 * p + 1) n = f1 p n - 1 := by
  unfold fst
  rw [if_neg (by omega), if_neg (by omega), show (4 * p + 1) / 4 = p by omega]
/-- small numbers, one by one -/
theorem five {n l : Int} (h1 : 1 ≤ n) (h2 : n ≤ l) (hl : l ≤ 5) : n = 1 ∨ n = 2 ∨ n = 3 ∨ n = 4 ∨ n = 5 := by omega
def smallOk (l : Int) : Bool :=
  [1, 2, 3, 4, 5].all fun n => decide (l < n) || ((decide (0 ≤ fst l n) && decide (fst l n + n < 2 * l)) && decide (n ∈ cand l (fst l n)) && decide (n ∈ cand l (fst l n + n)) &&
    [1, 2, 3, 4, 5].all fun m => decide (l < m) || decide (n = m) || (decide (fst l n ≠ fst l m) && decide (fst l n ≠ fst l m + m) && decide (fst l n + n ≠ fst l m) && decide (fst l n + n ≠ fst l m + m)))
theorem small_all : smallOk 1 = true ∧ smallOk 4 = true ∧ smallOk 5 = true := by decide +kernel
theorem small_use {l n : Int} (h : smallOk l = true) (hl : l ≤ 5) (h1 : 1 ≤ n) (h2 : n ≤ l) : (0 ≤ fst l n ∧ fst l n + n < 2 * l) ∧ n ∈ cand l (fst l n) ∧ n ∈ cand l (fst l n + n) ∧
    ∀ m, 1 ≤ m → m ≤ l → n ≠ m → fst l n ≠ fst l m ∧ fst l n ≠ fst l m + m ∧ fst l n + n ≠ fst l m ∧ fst l n + n ≠ fst l m + m := by
  have mem : ∀ m : Int, 1 ≤ m → m ≤ l → m ∈ ([1, 2, 3, 4, 5] : List Int) := fun m a b => by
    rcases five a b hl with e | e | e | e | e <;> subst e <;> decide
  have q := List.all_eq_true.mp h n (mem n h1 h2)
  simp only [Bool.or_eq_true, Bool.and_eq_true, decide_eq_true_eq] at q
  rcases q with q | q
  · omega
  obtain ⟨⟨⟨q1, q2⟩, q3⟩, q4⟩ := q
  refine ⟨q1, q2, q3, fun m a b ne => ?_⟩
  have z := List.all_eq_true.mp q4 m (mem m a b)
  simp only [Bool.or_eq_true, Bool.and_eq_true, decide_eq_true_eq] at z
  rcases z with (z | z) | z
  · omega
  · exact absurd z ne
  · exact ⟨z.1.1.1, z.1.1.2, z.1.2, z.2⟩
def smallEx (l : Int) : Bool := [0, 1, 2, 3, 4, 5, 6, 7, 8, 9].all fun q => decide (2 * l ≤ q) || [1, 2, 3, 4, 5].any fun n => decide (At l q n)
theorem small_ex : smallEx 1 = true ∧ smallEx 4 = true ∧ smallEx 5 = true := by decide +kernel
/-! what is said of a row, for every last number that can -/
theorem fst_rng {l n : Int} (hl : Can l) (h1 : 1 ≤ n) (h2 : n ≤ l) : 0 ≤ fst l n ∧ fst l n + n < 2 * l := by
  rcases can_cases hl with e | e | e | ⟨p, hp, e⟩ | ⟨p, hp, e⟩
  · subst e; exact (small_use small_all.1 (by omega) h1 h2).1
  · subst e; exact (small_use small_all.2.1 (by omega) h1 h2).1
  · subst e; exact (small_use small_all.2.2 (by omega) h1 h2).1
  · subst e; rw [fst4 hp]; have := R4_rng hp (f4_R hp h1 h2); omega
  · subst e; rw [fst1 hp]; have := R1_rng hp (f1_R hp h1 h2); omega
theorem small_uniq {l q n m : Int} (h : smallOk l = true) (hl : l ≤ 5) (a : At l q n) (b : At l q m) : n = m := by
  obtain ⟨⟨a1, a2⟩, a3⟩ := a
  obtain ⟨⟨b1, b2⟩, b3⟩ := b
  by_cases e : n = m
  · exact e
  · have z := (small_use h hl a1 a2).2.2.2 m b1 b2 e
    omega
theorem at_uniq {l q n m : Int} (hl : Can l) (a : At l q n) (b : At l q m) : n = m := by
  rcases can_cases hl with e | e | e | ⟨p, hp, e⟩ | ⟨p, hp, e⟩
  · subst e; exact small_uniq small_all.1 (by omega) a b
  · subst e; exact small_uniq small_all.2.1 (by omega) a b
  · subst e; exact small_uniq small_all.2.2 (by omega) a b
  · subst e
    obtain ⟨⟨a1, a2⟩, a3⟩ := a
    obtain ⟨⟨b1, b2⟩, b3⟩ := b
    rw [fst4 hp] at a3 b3
    exact R4_uniq (q := q + 1) hp (f4_R hp a1 a2) (f4_R hp b1 b2) (by omega) (by omega)
  · subst e
    obtain ⟨⟨a1, a2⟩, a3⟩ := a
    obtain ⟨⟨b1, b2⟩, b3⟩ := b
    rw [fst1 hp] at a3 b3
    exact R1_uniq (q := q + 1) hp (f1_R hp a1 a2) (f1_R hp b1 b2) (by omega) (by omega)
theorem at_cand {l q n : Int} (hl : Can l) (a : At l q n) : n ∈ cand l q := by
  rcases can_cases hl with e | e | e | ⟨p, hp, e⟩ | ⟨p, hp, e⟩
  · subst e
    obtain ⟨⟨a1, a2⟩, a3 | a3⟩ := a <;> subst a3
    · exact (small_use small_all.1 (by omega) a1 a2).2.1
    · exact (small_use small_all.1 (by omega) a1 a2).2.2.1
  · subst e
    obtain ⟨⟨a1, a2⟩, a3 | a3⟩ := a <;> subst a3
    · exact (small_use small_all.2.1 (by omega) a1 a2).2.1
    · exact (small_use small_all.2.1 (by omega) a1 a2).2.2.1
  · subst e
    obtain ⟨⟨a1, a2⟩, a3 | a3⟩ := a <;> subst a3
    · exact (small_use small_all.2.2 (by omega) a1 a2).2.1
    · exact (small_use small_all.2.2 (by omega) a1 a2).2.2.1
  · subst e
    obtain ⟨⟨a1, a2⟩, a3⟩ := a
    rw [fst4 hp] at a3
    exact R4_cand hp (f4_R hp a1 a2) (by omega)
  · subst e
    obtain ⟨⟨a1, a2⟩, a3⟩ := a
    rw [fst1 hp] at a3
    exact R1_cand hp (f1_R hp a1 a2) (by omega)
theorem small_exu {l q : Int} (h : smallEx l = true) (hl : l ≤ 5) (h1 : 0 ≤ q) (h2 : q < 2 * l) : ∃ n, At l q n := by
  have m : q ∈ ([0, 1, 2, 3, 4, 5, 6, 7, 8, 9] : List Int) := by
    have : q = 0 ∨ q = 1 ∨ q = 2 ∨ q = 3 ∨ q = 4 ∨ q = 5 ∨ q = 6 ∨ q = 7 ∨ q = 8 ∨ q = 9 := by omega
    rcases this with e | e | e | e | e | e | e | e | e | e <;> subst e <;> decide
  have z := List.all_eq_true.mp h q m
  simp only [Bool.or_eq_true, decide_eq_true_eq] at z
  rcases z with z | z
  · omega
  · obtain ⟨n, _, e⟩ := List.any_eq_true.mp z
    exact ⟨n, of_decide_eq_true e⟩
theorem at_ex {l q : Int} (hl : Can l) (h1 : 0 ≤ q) (h2 : q < 2 * l) : ∃ n, At l q n := by
  rcases can_cases hl with e | e | e | ⟨p, hp, e⟩ | ⟨p, hp, e⟩
  · subst e; exact small_exu small_ex.1 (by omega) h1 h2
  · subst e; exact small_exu small_ex.2.1 (by omega) h1 h2
  · subst e; exact small_exu small_ex.2.2 (by omega) h1 h2
  · subst e
    obtain ⟨n, a, r, hq⟩ := R4_ex (q := q + 1) hp (by omega) (by omega)
    have g := R4_rng hp r
    have e := R4_fun hp r (f4_R hp g.1 g.2.1)
    refine ⟨n, ⟨g.1, g.2.1⟩, ?_⟩
    rw [fst4 hp]
    omega
  · subst e
    obtain ⟨n, a, r, hq⟩ := R1_ex (q := q + 1) hp (by omega) (by omega)
    have g := R1_rng hp r
    have e := R1_fun hp r (f1_R hp g.1 g.2.1)
    refine ⟨n, ⟨g.1, g.2.1⟩, ?_⟩
    rw [fst1 hp]
    omega
/-- the number at a place -/
def num (l q : Int) : Int := ((cand l q).filter fun n => decide (At l q n)).headD 0
theorem filt_at {l q n : Int} (hl : Can l) (a : At l q n) : ∃ r, (cand l q).filter (fun n => decide (At l q n)) = n :: r := by
  have m : n ∈ (cand l q).filter (fun n => decide (At l q n)) := List.mem_filter.mpr ⟨at_cand hl a, decide_eq_true a⟩
  cases e : (cand l q).filter (fun n => decide (At l q n)) with
  | nil => rw [e] at m; cases m
  | cons x r =>
    have x1 : x ∈ (cand l q).filter (fun n => decide (At l q n)) := by rw [e]; exact List.mem_cons_self
    have x2 := of_decide_eq_true (List.mem_filter.mp x1).2
    exact ⟨r, by rw [at_uniq hl x2 a]⟩
theorem num_at {l q n : Int} (hl : Can l) (a : At l q n) : num l q = n := by
  obtain ⟨r, e⟩ := filt_at hl a
  unfold num
  rw [e]
  rfl
theorem at_num {l q : Int} (hl : Can l) (h1 : 0 ≤ q) (h2 : q < 2 * l) : At l q (num l q) := by
  obtain ⟨n, a⟩ := at_ex hl h1 h2
  rw [num_at hl a]
  exact a
end PA

set_option Elab.async false
set_option linter.all false
set_option maxRecDepth 100000
set_option maxHeartbeats 4000000
namespace PA
open PySem PySem.Spec PyProof.Rows L2 Evl
/-! ### names of the built-ins -/
theorem bt_int : bootBuiltins "int" = some (.type "int") := by decide +kernel
theorem bt_bool : bootBuiltins "bool" = some (.type "bool") := by decide +kernel
theorem bt_list : bootBuiltins "list" = some (.type "list") := by decide +kernel
theorem bt_tuple : bootBuiltins "tuple" = some (.type "tuple") := by decide +kernel
theorem bt_str : bootBuiltins "str" = some (.type "str") := by decide +kernel
theorem bt_set : bootBuiltins "set" = some (.type "set") := by decide +kernel
theorem bt_ValueError : bootBuiltins "ValueError" = some (.type "ValueError") := by decide +kernel
theorem bt_len : bootBuiltins "len" = some (.builtin "len") := by decide +kernel
theorem bt_abs : bootBuiltins "abs" = some (.builtin "abs") := by decide +kernel
theorem bt_sum : bootBuiltins "sum" = some (.builtin "sum") := by decide +kernel
theorem bt_min : bootBuiltins "min" = some (.builtin "min") := by decide +kernel
theorem bt_isinstance : bootBuiltins "isinstance" = some (.builtin "isinstance") := by decide +kernel
theorem bt_sorted : bootBuiltins "sorted" = some (.builtin "sorted") := by decide +kernel
theorem bt_all : bootBuiltins "all" = some (.builtin "all") := by decide +kernel
theorem bt_any : bootBuiltins "any" = some (.builtin "any") := by decide +kernel
/-! ### an item of a written dict, by a whole number -/
def KInt (K : PySem.W.Frag) (d : Addr) (k : Int) (v : V) : Prop :=
  ∃ es n u, K.lookup d = some ⟨.type "dict", none, .dict es n, #[]⟩ ∧ (∀ e ∈ es, ∃ k t, e.key = .int k t ∧ e.hash = hashInt k) ∧ findBy Value.isInt es k = some u ∧ RelV v u
def rIxI (K : PySem.W.Frag) : R2 := fun x y H Q => ∃ p z v, x = .ref p ∧ y = .int z ∧ KInt K p z v ∧ Q v H
theorem ix_kint {X : Cx} : IxR X (rIxI X.K) := by
  intro value slice pins s σ H x y v u Q I rx ry h hs
  obtain ⟨p, z, r, rfl, rfl, ⟨es, n, u0, hl, hk, e, ru⟩, q⟩ := h
  obtain rfl : v = Value.ref p := rx
  obtain ⟨t, rfl⟩ := ry
  have hm : s.heap.MapOf (PySem.intKind X.prog X.w) p (fun k => findBy Value.isInt es k) := ⟨_, es, n, I.kIn _ _ hl, ⟨rfl, rfl, rfl⟩, rfl, fun e he => by
    obtain ⟨k, t, e1, e2⟩ := hk e he
    exact ⟨k, by rw [e1]; simp [PySem.intKind, Value.isInt], e2⟩, fun _ => rfl⟩
  exact tail_any hm.typeIs slot_dict_getitem.lookup (wpAny_getItem_of (by simp [PySem.intKind, Value.isInt]) hm e ⟨r, H, I.tok _, ru, q⟩) hs
theorem rv_kint {K : PySem.W.Frag} {H : Hp} {p : Addr} {z : Int} {v : V} (h : KInt K p z v) : RV (rIxI K) (.ref p) (.int z) H v := fun H1 _ _ q => ⟨p, z, v, rfl, rfl, h, q H1 (Ex.refl H1)⟩
/-! ### what a class of errors is -/
structure ExcT (K : PySem.W.Frag) (C : Addr) : Prop where
  ex : PySem.W.excIn K C [.type "ValueError", .type "Exception", .type "BaseException", .type "object"] "ValueError.__new__" = true
  kp : PySem.W.keepIn K (.ref C) = true
  sb : PySem.W.subIn K (.ref C) (.type "BaseException") = some true
  ty : PySem.W.typeIn K (.ref C) = some (.type "type")
/-! ### whole numbers -/
def isNumT (T : String) : Option Bool := match kitB T "int" with
  | some true => (kitB T "bool").map (!·)
  | some false => some false
  | none => none
theorem num_int : isNumT "int" = some true := by decide +kernel
theorem num_bool : isNumT "bool" = some false := by decide +kernel
theorem num_none : isNumT "NoneType" = some false := by decide +kernel
theorem num_str : isNumT "str" = some false := by decide +kernel
theorem num_list : isNumT "list" = some false := by decide +kernel
theorem num_tuple : isNumT "tuple" = some false := by decide +kernel
theorem num_dict : isNumT "dict" = some false := by decide +kernel
/-- whether a value is a whole number: b -/
def Num (K : PySem.W.Frag) (H : Hp) (v : V) (b : Bool) : Prop := ∃ T, TyX K H v (.type T) ∧ isNumT T = some b
theorem Num.int {K : PySem.W.Frag} {H : Hp} (n : Int) : Num K H (.int n) true := ⟨"int", .base (.int n), num_int⟩
theorem ex_ty {K : PySem.W.Frag} {H H' : Hp} {v : V} {t : Value} (e : Ex H H') (h : TyX K H v t) : TyX K H' v t := by
  cases h with
  | base b =>
    cases b with
    | non => exact .base .non
    | bl x => exact .base (.bl x)
    | int x => exact .base (.int x)
    | str x => exact .base (.str x)
    | flt x => exact .base (.flt x)
    | lst z => exact .base (.lst (e _ _ z))
    | frz z => exact .base (.frz (e _ _ z))
    | tup z => exact .base (.tup (e _ _ z))
    | dK z => exact .base (.dK (e _ _ z))
    | dT z => exact .base (.dT (e _ _ z))
    | ins z a b c d f => exact .base (.ins (e _ _ z) a b c d f)
  | byt b => exact .byt b
  | set z => exact .set (e _ _ z)
  | kList a b => exact .kList a b
  | kTuple a b => exact .kTuple a b
  | kDict a b => exact .kDict a b
  | fTuple z => exact .fTuple (e _ _ z)
  | fDict z => exact .fDict (e _ _ z)
theorem Num.ex {K : PySem.W.Frag} {H H' : Hp} {v : V} {b : Bool} (e : Ex H H') (h : Num K H v b) : Num K H' v b := by
  obtain ⟨T, t, n⟩ := h
  exact ⟨T, ex_ty e t, n⟩
/-! ### readings -/
section
variable {K : PySem.W.Frag} {σ : L2.St} {H H' : Hp} {ta tb te tx tc : TE} {t u : TT} {x y z v : V} {D : Ends} {tu tw tz : TS} {g : TG} {r r' : R2}
theorem ev_isi {c : V} {ty cu : Value} {b : Bool} (h : EvA (tCons ta (tCons tb tNil)) σ H [x, c]) (hc : ClsV c cu) (ht : TyX K H x ty) (hk : PySem.W.kitOne K ty cu = some b) : Ev (tCB (rIsi K) (tCons ta (tCons tb tNil))) σ H (.bl b) :=
  ev_cb h fun H1 e _ q => ⟨x, c, ty, cu, b, rfl, hc, ex_ty e ht, hk, q H1 (Ex.refl H1)⟩
theorem ev_abs {i : Int} (ha : Ev ta σ H (.int i)) : Ev (tCB (fun xs H Q => ∃ i, xs = [V.int i] ∧ Q (.int (if i < 0 then -i else i)) H) (tCons ta tNil)) σ H (.int (if i < 0 then -i else i)) :=
  ev_cb (ea_cons ha ea_nil) fun H1 _ _ q => ⟨i, rfl, q H1 (Ex.refl H1)⟩
theorem rv_mulL {i j : Int} (h : -(2 ^ 64) < i ∧ i < 2 ^ 64) : RV (rI CMul fun i j => .int (i * j)) (.int i) (.int j) H (.int (i * j)) := rv_I (.inl h)
theorem rv_mulR {i j : Int} (h : -(2 ^ 64) < j ∧ j < 2 ^ 64) : RV (rI CMul fun i j => .int (i * j)) (.int i) (.int j) H (.int (i * j)) := rv_I (.inr h)
theorem rv_div {i j : Int} (h : 0 < j ∧ j < 1073741824) : RV (rI CDiv fun i j => .int (i / j)) (.int i) (.int j) H (.int (i / j)) := rv_I h
theorem rv_mod {i j : Int} (h : 0 < j) : RV (rI (fun _ j => 0 < j) fun i j => .int (i % j)) (.int i) (.int j) H (.int (i % j)) := rv_I h
/-- a < b < c -/
theorem ev_chain {w : V} {k1 k2 : Bool} (ha : Ev ta σ H x) (hb : Ev tb σ H y) (hr : RV r x y H (.bl k1)) (hc : k1 = true → Ev tc σ H w) (hr' : k1 = true → RV r' y w H (.bl k2)) : Ev (tChain r r' ta tb tc) σ H (.bl (k1 && k2)) := fun H1 e Q q =>
  ha H1 e _ fun H2 e2 => hb H2 (e.trans e2) _ fun H3 e3 => hr H3 ((e.trans e2).trans e3) _ fun H4 e4 => ⟨k1, rfl, by
    have e14 := ((e.trans e2).trans e3).trans e4
    have e' := (e2.trans e3).trans e4
    cases k1 with
    | true =>
      rw [if_pos rfl]
      exact hc rfl H4 e14 _ fun H5 e5 => hr' rfl H5 (e14.trans e5) _ fun H6 e6 => q H6 ((e'.trans e5).trans e6)
    | false =>
      rw [if_neg Bool.false_ne_true]
      exact q H4 e'⟩
def SpU (sp : Sp) (vs : List V) (H : Hp) (xs : List V) : Prop := ∀ H1, Ex H H1 → ∀ Q : VK, (∀ p H2, H1 p = none → Ex H1 H2 → H2 p = some (.tup xs) → Q (.ref p) H2) → ∀ E : XK, sp vs H1 Q E
theorem eu_call {sp : Sp} {dvs vs xs : List V} {E : XK} {ta : TA} (h : EvA ta σ H vs) (hs : SpU sp (vs ++ dvs) H xs) : EvU (tCall sp dvs E ta) σ H xs := fun H1 e Q q =>
  h H1 e _ fun H2 e2 => hs H2 (e.trans e2) Q (fun p H3 hp e3 h3 => q p H3 (fresh_back e2 hp) (e2.trans e3) h3) E
def RetU (xs : List V) (H : Hp) (Q : VK) : Prop := ∀ p H2, H p = none → Ex H H2 → H2 p = some (.tup xs) → Q (.ref p) H2
theorem RetU.go {xs : List V} {Q : VK} (k : RetU xs H Q) (e : Ex H H') {p : Addr} {H2 : Hp} (hp : H' p = none) (e2 : Ex H' H2) (h : H2 p = some (.tup xs)) : Q (.ref p) H2 := k p H2 (fresh_back e hp) (e.trans e2) h
/-- a written dict of pairs: what it holds at a key -/
theorem ev_dget {d : Addr} {kvs : List (Key × V)} {n : Int} (h : H d = some (.dK kvs)) (hd : Ev ta σ H (.ref d)) (hk : Ev tb σ H (.int n)) (hv : valV kvs (Sum.inl n) = some v) : Ev (tDGet ta tb) σ H v := fun H1 e Q q =>
  hd H1 e _ fun H2 e2 => hk H2 (e.trans e2) _ fun H3 e3 => ⟨d, v, rfl, by
    have := DGet.k (k := Sum.inl n) (((e.trans e2).trans e3) _ _ h)
    rw [hv] at this
    exact this, q H3 (e2.trans e3)⟩
theorem et_din {d : Addr} {kvs : List (Key × V)} {n : Int} (h : H d = some (.dK kvs)) (hk : Ev ta σ H (.int n)) (hd : Ev tb σ H (.ref d)) : EvT (tB (tDIn ta tb)) σ H (valV kvs (Sum.inl n)).isSome := et_B fun H1 e Q q =>
  hk H1 e _ fun H2 e2 => hd H2 (e.trans e2) _ fun H3 e3 => ⟨d, _, rfl, DGet.k (k := Sum.inl n) (((e.trans e2).trans e3) _ _ h), q H3 (e2.trans e3)⟩
/-- a display of a dict -/
def EvPs (trs : List (TE × TE)) (σ : L2.St) (H : Hp) (ps : List (V × V)) : Prop := ∀ H1, Ex H H1 → ∀ Q : List (V × V) → Hp → Prop, (∀ H2, Ex H1 H2 → Q ps H2) → tPairs trs σ H1 Q
theorem ep_nil : EvPs [] σ H [] := fun H1 _ _ q => q H1 (Ex.refl H1)
theorem ep_cons {trs : List (TE × TE)} {ps : List (V × V)} (ha : Ev ta σ H x) (hb : Ev tb σ H y) (h : EvPs trs σ H ps) : EvPs ((ta, tb) :: trs) σ H ((x, y) :: ps) := fun H1 e _ q =>
  ha H1 e _ fun H2 e2 => hb H2 (e.trans e2) _ fun H3 e3 => h H3 ((e.trans e2).trans e3) _ fun H4 e4 => q H4 ((e2.trans e3).trans e4)
theorem q_asgD {i : Nat} {trs : List (TE × TE)} {kvs : List (Key × V)} (h : EvPs trs σ H (kvs.map fun kv => (kV kv.1, kv.2))) (hl : kvs.length ≤ 15) (k : ∀ p H1, H p = none → Ex H H1 → H1 p = some (.dK (mergeK [] kvs)) → tz D (σ.set i (some (.ref p))) H1) :
    tSeq (tAsg (tDisp trs) (gName i)) tz D σ H := fun p hp => h (upd H p (.dK [])) (Ex.new hp) _ fun H2 e2 =>
  ⟨e2 p _ upd_same, kvs, rfl, hl, k p _ hp (Ex.mut ((Ex.new hp).trans e2) hp) upd_same⟩
/-- a loop over a new tuple -/
theorem q_forNU {xs : List V} {tl : TE} {j : Nat} (h : EvU tl σ H xs) (Pv : Addr → Nat → L2.St → Hp → Prop) (h0 : ∀ p H1, H p = none → Ex H H1 → H1 p = some (.tup xs) → Pv p 0 σ H1) (hl : ∀ p i σ' H', i ≤ xs.length → Pv p i σ' H' → SqT K H' p xs)
    (hs : ∀ p i x σ' H', xs[i]? = some x → Pv p i σ' H' → tu { D with nx := Pv p (i + 1), ct := Pv p (i + 1), bk := tz D } (σ'.set j (some x)) H') (hd : ∀ p σ' H', Pv p xs.length σ' H' → tz D σ' H') : tSeq (tFor (iTup K tl) (gName j) tu) tz D σ H :=
  h H (Ex.refl H) _ fun p H1 hp e h1 => ⟨p, rfl, ⟨xs, st_of h1⟩, for_tup (Pv p) (h0 p H1 hp e h1) (hl p) (hs p) (hd p)⟩
/-- xs.extend(a new list) -/
theorem s_ext {l : Addr} {xs ys : List V} (hl : H l = some (.lst xs)) (ha : Ev ta σ H (.ref l)) (h : EvL te σ H ys) (hz : xs.length + ys.length ≤ 100000) (k : ∀ H1, Ex H H1 → D.nx σ (upd H1 l (.lst (xs ++ ys)))) :
    tDrop (tBM K "list" rExtend ta (tCons te tNil)) D σ H := ha H (Ex.refl H) _ fun H1 e1 =>
  ⟨Or.inl ⟨rfl, xs, sq_of (e1 l _ hl)⟩, h H1 e1 _ fun p H2 hp e2 h2 => ⟨l, p, xs, ys, rfl, rfl, e2 l _ (e1 l _ hl), h2, sz_of hz, k H2 (e1.trans e2)⟩⟩
theorem el_is {xs ys : List V} (h : EvL te σ H xs) (e : xs = ys) : EvL te σ H ys := by
  rw [← e]
  exact h
theorem eu_is {xs ys : List V} (h : EvU te σ H xs) (e : xs = ys) : EvU te σ H ys := by
  rw [← e]
  exact h
theorem et_yes : EvT tYes σ H true := fun H1 _ _ q => q H1 (Ex.refl H1)
end
/-! ### lists and comprehensions -/
theorem range_getD (xs : List Int) : (List.range xs.length).map (fun i => xs.getD i 0) = xs := by
  refine List.ext_getElem? fun i => ?_
  rw [List.getElem?_map]
  by_cases h : i < xs.length
  · rw [List.getElem?_eq_getElem (by rw [List.length_range]; exact h), List.getElem?_eq_getElem h, List.getElem_range]
    show some (xs.getD i 0) = _
    rw [List.getD_eq_getElem?_getD]
    simp [h]
  · rw [List.getElem?_eq_none (by rw [List.length_range]; omega), List.getElem?_eq_none (by omega)]
    rfl
theorem given_filter (p : Int → Bool) (xs : List Int) : given xs.length (fun i => p (xs.getD i 0)) (fun i => .int (xs.getD i 0)) = (xs.filter p).map V.int := by
  have e : xs.filter p = ((List.range xs.length).filter fun i => p (xs.getD i 0)).map fun i => xs.getD i 0 := by
    have := congrArg (List.filter p) (range_getD xs)
    rw [← this, List.filter_map]
    rfl
  rw [e, List.map_map]
  rfl
theorem given_all (v : Nat → V) (n : Nat) : given n (fun _ => true) v = (List.range n).map v := by
  unfold given
  rw [List.filter_eq_self.mpr (fun _ _ => rfl)]
theorem getD_of {xs : List Int} {i : Nat} {x : V} (h : (xs.map V.int)[i]? = some x) : x = .int (xs.getD i 0) := by
  rw [List.getElem?_map] at h
  cases e : xs[i]? with
  | none => rw [e] at h; cases h
  | some n =>
    rw [e] at h
    have h2 : V.int n = x := Option.some.inj h
    rw [← h2, List.getD_eq_getElem?_getD, e]
    rfl
theorem lt_of {α : Type} {xs : List α} {i : Nat} {x : α} (h : xs[i]? = some x) : i < xs.length := (List.getElem?_eq_some_iff.mp h).1
theorem inV_pair (q a b : Int) : inV (.int q) [.int a, .int b] = decide (q = a ∨ q = b) := by
  show ((a == q) || ((b == q) || false)) = _
  by_cases h1 : a = q
  · subst h1
    simp
  · by_cases h2 : b = q
    · subst h2
      simp
    · have h3 : ¬ (q = a ∨ q = b) := by omega
      rw [decide_eq_false h3]
      simp [h1, h2]
end PA

set_option Elab.async false
set_option linter.all false
set_option maxRecDepth 100000
set_option maxHeartbeats 4000000
namespace PA
open PySem PySem.Spec PyProof.Rows L2 Evl
/-! ### lists and tuples of whole numbers, compared -/
theorem eqvAll_ints : ∀ ns ms : List Int, PyData.eqvAll (ns.map PyData.int) (ms.map PyData.int) = decide (ns = ms)
  | [], [] => by simp [PyData.eqvAll]
  | [], _ :: _ => by simp [PyData.eqvAll]
  | _ :: _, [] => by simp [PyData.eqvAll]
  | n :: ns, m :: ms => by
    rw [List.map_cons, List.map_cons]
    show (PyData.eqv (.int n) (.int m) && PyData.eqvAll _ _) = _
    rw [eqvAll_ints ns ms]
    show ((n == m) && decide (ns = ms)) = _
    by_cases h : n = m
    · subst h
      simp
    · simp [h]
theorem eqv_ints (ns ms : List Int) : PyData.eqv (.list (ns.map PyData.int)) (.list (ms.map PyData.int)) = decide (ns = ms) := eqvAll_ints ns ms
theorem eqv_intsT (ns ms : List Int) : PyData.eqv (.tuple (ns.map PyData.int)) (.tuple (ms.map PyData.int)) = decide (ns = ms) := eqvAll_ints ns ms
theorem canAll_ints : ∀ ns : List Int, PyData.canLayAll0 (ns.map PyData.int) = true
  | [] => rfl
  | _ :: r => by
    rw [List.map_cons]
    show (PyData.canLay0 (.int _) && PyData.canLayAll0 _) = true
    rw [canAll_ints r]
    rfl
theorem depAll_ints : ∀ ns : List Int, PyData.depthAll (ns.map PyData.int) = 0
  | [] => rfl
  | _ :: r => by
    rw [List.map_cons]
    show max (PyData.depth (.int _)) (PyData.depthAll _) = 0
    rw [depAll_ints r]
    rfl
theorem shp_ints (ns : List Int) : SeqAt.shaped (.list (ns.map PyData.int)) = true := by
  show (PyData.canLayAll0 _ && decide (PyData.depthAll _ + 1 ≤ 64)) = true
  rw [canAll_ints, depAll_ints]
  rfl
theorem shp_intsT (ns : List Int) : SeqAt.shaped (.tuple (ns.map PyData.int)) = true := by
  show (PyData.canLayAll0 _ && decide (PyData.depthAll _ + 1 ≤ 64)) = true
  rw [canAll_ints, depAll_ints]
  rfl
theorem dpAll_ints {K : PySem.W.Frag} {H : Hp} : ∀ ns : List Int, DpAll K H (ns.map V.int) (ns.map PyData.int)
  | [] => .nil
  | n :: r => .cons (.int n) (dpAll_ints r)
section
variable {K : PySem.W.Frag} {σ : L2.St} {H H' : Hp} {ta tb te tx tc : TE} {t u : TT} {x y z v : V} {D : Ends} {tu tw tz : TS} {g : TG} {r r' : R2}
theorem rv_eqL {a b : Addr} {ns ms : List Int} (ha : SqL K H a (ns.map V.int)) (hb : SqL K H b (ms.map V.int)) : RV (rEqD K) (.ref a) (.ref b) H (.bl (decide (ns = ms))) := fun H1 e Q q =>
  ⟨_, _, .lst (ex_l e ha) (dpAll_ints ns), .lst (ex_l e hb) (dpAll_ints ms), shp_ints _, shp_ints _, by rw [eqv_ints]; exact q H1 (Ex.refl H1)⟩
theorem rv_neL {a b : Addr} {ns ms : List Int} (ha : SqL K H a (ns.map V.int)) (hb : SqL K H b (ms.map V.int)) : RV (rNeD K) (.ref a) (.ref b) H (.bl (!decide (ns = ms))) := fun H1 e Q q =>
  ⟨_, _, .lst (ex_l e ha) (dpAll_ints ns), .lst (ex_l e hb) (dpAll_ints ms), shp_ints _, shp_ints _, by rw [eqv_ints]; exact q H1 (Ex.refl H1)⟩
theorem rv_eqT {a b : Addr} {ns ms : List Int} (ha : SqT K H a (ns.map V.int)) (hb : SqT K H b (ms.map V.int)) : RV (rEqD K) (.ref a) (.ref b) H (.bl (decide (ns = ms))) := fun H1 e Q q =>
  ⟨_, _, .tup (ex_t e ha) (dpAll_ints ns), .tup (ex_t e hb) (dpAll_ints ms), shp_intsT _, shp_intsT _, by rw [eqv_intsT]; exact q H1 (Ex.refl H1)⟩
theorem rv_neT {a b : Addr} {ns ms : List Int} (ha : SqT K H a (ns.map V.int)) (hb : SqT K H b (ms.map V.int)) : RV (rNeD K) (.ref a) (.ref b) H (.bl (!decide (ns = ms))) := fun H1 e Q q =>
  ⟨_, _, .tup (ex_t e ha) (dpAll_ints ns), .tup (ex_t e hb) (dpAll_ints ms), shp_intsT _, shp_intsT _, by rw [eqv_intsT]; exact q H1 (Ex.refl H1)⟩
/-! ### readings with new lists and tuples -/
theorem ev_opU1 {xs : List V} (ha : EvU ta σ H xs) (hb : ∀ H1, Ex H H1 → Ev tb σ H1 y) (hr : ∀ p H1, H1 p = some (.tup xs) → Ex H H1 → RV r (.ref p) y H1 z) : Ev (tOp r ta tb) σ H z := fun H1 e Q q =>
  ha H1 e _ fun p H2 _ e2 h2 => hb H2 (e.trans e2) H2 (Ex.refl H2) _ fun H3 e3 => hr p H3 (e3 _ _ h2) ((e.trans e2).trans e3) H3 (Ex.refl H3) _ fun H4 e4 => q H4 ((e2.trans e3).trans e4)
theorem el_if {b : Bool} {xs : List V} (h : EvT t σ H b) (h1 : b = true → EvL ta σ H xs) (h2 : b = false → EvL tb σ H xs) : EvL (tIf t ta tb) σ H xs := fun H1 e Q q => h H1 e _ fun H2 e2 => by
  have k : ∀ te, EvL te σ H xs → te σ H2 Q := fun te ht => ht H2 (e.trans e2) _ fun p H3 hp e3 h3 => q p H3 (fresh_back e2 hp) (e2.trans e3) h3
  cases b with
  | true => exact k _ (h1 rfl)
  | false => exact k _ (h2 rfl)
/-- xs + ys, both tracked -/
theorem el_cat {xs ys : List V} (ha : ∀ H1, Ex H H1 → ∀ Q : VK, (∀ p H2, Ex H1 H2 → H2 p = some (.lst xs) → Q (.ref p) H2) → ta σ H1 Q) (hb : ∀ H1, Ex H H1 → ∀ Q : VK, (∀ p H2, Ex H1 H2 → H2 p = some (.lst ys) → Q (.ref p) H2) → tb σ H1 Q) (hz : xs.length + ys.length ≤ 100000) :
    EvL (tOp rCat ta tb) σ H (xs ++ ys) := fun H1 e Q q => ha H1 e _ fun p H2 e2 h2 => hb H2 (e.trans e2) _ fun p3 H3 e3 h3 =>
  ⟨p, p3, xs, ys, rfl, rfl, e3 _ _ h2, h3, sz_of hz, fun p4 h4 => q p4 _ (fresh_back (e2.trans e3) h4) ((e2.trans e3).trans (Ex.new h4)) upd_same⟩
/-- a tracked list, new or not -/
theorem at_new {xs : List V} (h : EvL te σ H xs) : ∀ H1, Ex H H1 → ∀ Q : VK, (∀ p H2, Ex H1 H2 → H2 p = some (.lst xs) → Q (.ref p) H2) → te σ H1 Q := fun H1 e Q q => h H1 e Q fun p H2 _ e2 h2 => q p H2 e2 h2
theorem at_old {a : Addr} {xs : List V} (h : Ev te σ H (.ref a)) (ha : H a = some (.lst xs)) : ∀ H1, Ex H H1 → ∀ Q : VK, (∀ p H2, Ex H1 H2 → H2 p = some (.lst xs) → Q (.ref p) H2) → te σ H1 Q := fun H1 e Q q => h H1 e Q fun H2 e2 => q a H2 e2 (e2 _ _ (e _ _ ha))
theorem el_rep {xs : List V} {k : Int} (ha : EvL ta σ H xs) (hb : Ev tb σ H (.int k)) (h0 : 0 ≤ k) (hk : k ≤ 100000) (hz : xs.length * k.toNat ≤ 100000) : EvL (tOp rRep ta tb) σ H (List.replicate k.toNat xs).flatten := fun H1 e Q q =>
  ha H1 e _ fun p H2 hp e2 h2 => hb H2 (e.trans e2) _ fun H3 e3 => ⟨p, k, xs, rfl, rfl, e3 _ _ h2, by omega, by omega, sz_of hz, fun p4 h4 => q p4 _ (fresh_back (e2.trans e3) h4) ((e2.trans e3).trans (Ex.new h4)) upd_same⟩
theorem ev_sum {a : Addr} {ns : List Int} (h : Ev ta σ H (.ref a)) (hs : SqL K H a (ns.map V.int)) : Ev (tCB (rSum K) (tCons ta tNil)) σ H (.int ns.sum) := ev_cb (ea_cons h ea_nil) fun H1 e _ q => ⟨a, ns, rfl, ex_l e hs, q H1 (Ex.refl H1)⟩
theorem ev_cbL {xs : List V} {rr : List V → Hp → VK → Prop} (h : EvL ta σ H xs) (hr : ∀ p H1, H1 p = some (.lst xs) → Ex H H1 → RC rr [.ref p] H1 z) : Ev (tCB rr (tCons ta tNil)) σ H z := fun H1 e Q q =>
  h H1 e _ fun p H2 _ e2 h2 => hr p H2 h2 (e.trans e2) H2 (Ex.refl H2) _ fun H3 e3 => q H3 (e2.trans e3)
theorem ev_cbU {xs : List V} {rr : List V → Hp → VK → Prop} (h : EvU ta σ H xs) (hr : ∀ p H1, H1 p = some (.tup xs) → Ex H H1 → RC rr [.ref p] H1 z) : Ev (tCB rr (tCons ta tNil)) σ H z := fun H1 e Q q =>
  h H1 e _ fun p H2 _ e2 h2 => hr p H2 h2 (e.trans e2) H2 (Ex.refl H2) _ fun H3 e3 => q H3 (e2.trans e3)
theorem rc_sum {a : Addr} {ns : List Int} (hs : SqL K H a (ns.map V.int)) : RC (rSum K) [.ref a] H (.int ns.sum) := fun H1 e _ q => ⟨a, ns, rfl, ex_l e hs, q H1 (Ex.refl H1)⟩
theorem ev_lenT {a : Addr} {xs : List V} (h : Ev ta σ H (.ref a)) (hs : SqT K H a xs) : Ev (tCB (rLenS K) (tCons ta tNil)) σ H (.int (xs.length : Int)) := ev_cb (ea_cons h ea_nil) fun H1 e _ q => ⟨a, xs, rfl, .inr (ex_t e hs), q H1 (Ex.refl H1)⟩
theorem ev_min2 {i j : Int} (ha : Ev ta σ H (.int i)) (hb : Ev tb σ H (.int j)) : Ev (tCB (fun xs H Q => ∃ i j, xs = [V.int i, V.int j] ∧ Q (.int (if j < i then j else i)) H) (tCons ta (tCons tb tNil))) σ H (.int (if j < i then j else i)) :=
  ev_cb (ea_cons ha (ea_cons hb ea_nil)) fun H1 _ _ q => ⟨i, j, rfl, q H1 (Ex.refl H1)⟩
theorem rv_pow {i j : Int} (h : 0 ≤ j ∧ j ≤ 1000000 ∧ i.natAbs < 2 ^ 64) : RV (rI CPow fun i j => .int (i ^ j.toNat)) (.int i) (.int j) H (.int (i ^ j.toNat)) := rv_I h
theorem rv_mulX {i j : Int} {m n : Nat} (hi : Builtin.Int.intBits i ≤ m) (hj : Builtin.Int.intBits j ≤ n) (h : m + n ≤ 134217728) : RV (rI CMulX fun i j => .int (i * j)) (.int i) (.int j) H (.int (i * j)) := rv_I (by
  show (Builtin.Int.intBits i : Int) + (Builtin.Int.intBits j : Int) ≤ 134217728
  omega)
theorem ev_ifV {b : Bool} {v w : V} (h : EvT t σ H b) (h1 : b = true → Ev ta σ H v) (h2 : b = false → Ev tb σ H w) : Ev (tIf t ta tb) σ H (if b = true then v else w) := ev_if h (fun hb => by subst hb; exact h1 rfl) (fun hb => by subst hb; exact h2 rfl)
/-! ### a range with a step upwards -/
theorem rng_up {hi c : Int} (h0 : 0 ≤ hi) (h1 : hi ≤ 1000) (hc : 0 < c) (hc2 : c ≤ 1000) : ∃ n : Nat, RgC 0 hi c n ∧ ∀ i : Nat, i < n → (i : Int) * c < hi := by
  refine ⟨(Builtin.Range.rangeSize 0 hi c).toNat, ⟨by omega, by omega, ?_, ?_⟩, fun i hi' => ?_⟩
  · unfold Builtin.Range.small Builtin.Range.rangeSize
    simp only [Builtin.Range.rangeFitsLong, Bool.and_eq_true, Bool.or_eq_true, decide_eq_true_eq, beq_iff_eq, gt_iff_lt, if_pos hc]
    by_cases z : 0 < hi
    · have q0 : 0 ≤ (hi - 0 - 1) / c := Int.ediv_nonneg (by omega) (by omega)
      have q1 : (hi - 0 - 1) / c ≤ hi - 0 - 1 := Int.ediv_le_self _ (by omega)
      rw [if_pos z]
      omega
    · rw [if_neg z]
      omega
  · unfold Builtin.Range.rangeSize
    rw [if_pos hc]
    split
    · have : 0 ≤ (hi - 0 - 1) / c := Int.ediv_nonneg (by omega) (by omega)
      omega
    · rfl
  · unfold Builtin.Range.rangeSize at hi'
    rw [if_pos hc] at hi'
    split at hi'
    · have q0 : 0 ≤ (hi - 0 - 1) / c := Int.ediv_nonneg (by omega) (by omega)
      have q1 : (i : Int) ≤ (hi - 0 - 1) / c := by omega
      have q2 : (hi - 0 - 1) / c * c ≤ hi - 0 - 1 := Int.ediv_mul_le _ (by omega)
      have q3 : (i : Int) * c ≤ (hi - 0 - 1) / c * c := Int.mul_le_mul_of_nonneg_right q1 (by omega)
      omega
    · simp at hi'
theorem q_forR3 {ta : TA} {j : Nat} {hi c : Int} (h : EvA ta σ H [.int 0, .int hi, .int c]) (h0 : 0 ≤ hi) (h1 : hi ≤ 1000) (hc : 0 < c) (hc2 : c ≤ 1000) (Pv : L2.St → Hp → Prop) (hp : ∀ H1, Ex H H1 → Pv σ H1)
    (hs : ∀ (k : Int) σ' H', 0 ≤ k → k < hi → Pv σ' H' → tu { D with nx := Pv, ct := Pv, bk := tz D } (σ'.set j (some (.int k))) H') (hd : ∀ σ' H', Pv σ' H' → tz D σ' H') : tSeq (tFor (iRng3 ta) (gName j) tu) tz D σ H := by
  obtain ⟨n, hn, hk⟩ := rng_up h0 h1 hc hc2
  refine h H (Ex.refl H) _ fun H1 e => ⟨0, hi, c, n, rfl, hn, for_rangeC (lo := 0) (c := c) (n := n) (D := { D with nx := tz D }) (fun _ => Pv) (hp H1 e) (fun i σ' H' hi' p => ?_) hd⟩
  have := hk i hi'
  exact hs (0 + (i : Int) * c) σ' H' (by have := Int.mul_nonneg (show (0 : Int) ≤ (i : Int) by omega) (show (0 : Int) ≤ c by omega); omega) (by omega) p
end
/-! ### tables -/
def tabl (n : Nat) (f : Nat → Int) : List Int := (List.range n).map f
theorem tabl_len (n : Nat) (f : Nat → Int) : (tabl n f).length = n := by
  unfold tabl
  rw [List.length_map, List.length_range]
theorem tabl_get {n j : Nat} (f : Nat → Int) (h : j < n) : (tabl n f)[j]? = some (f j) := by
  unfold tabl
  rw [List.getElem?_map, List.getElem?_eq_getElem (by rw [List.length_range]; exact h), List.getElem_range]
  rfl
theorem tabl_congr {n : Nat} {f g : Nat → Int} (h : ∀ i, i < n → f i = g i) : tabl n f = tabl n g := by
  unfold tabl
  exact List.map_congr_left fun i hi => h i (List.mem_range.mp hi)
theorem tabl_set {n j : Nat} (f : Nat → Int) (v : Int) : (tabl n f).set j v = tabl n (fun i => if i = j then v else f i) := by
  refine List.ext_getElem? fun i => ?_
  by_cases h : i < n
  · rw [tabl_get _ h]
    by_cases e : i = j
    · subst e
      rw [if_pos rfl, List.getElem?_set_self (by rw [tabl_len]; exact h)]
    · rw [if_neg e, List.getElem?_set_ne (fun z => e z.symm), tabl_get _ h]
  · rw [List.getElem?_eq_none (by rw [List.length_set, tabl_len]; omega), List.getElem?_eq_none (by rw [tabl_len]; omega)]
theorem tabl_const (n : Nat) (c : Int) : tabl n (fun _ => c) = List.replicate n c := by
  unfold tabl
  refine List.ext_getElem? fun i => ?_
  by_cases h : i < n
  · rw [List.getElem?_map, List.getElem?_eq_getElem (by rw [List.length_range]; exact h), List.getElem?_replicate, if_pos h]
    rfl
  · rw [List.getElem?_eq_none (by rw [List.length_map, List.length_range]; omega), List.getElem?_replicate, if_neg h]
theorem rep_flat (n : Nat) (c : Int) : (List.replicate n [V.int c]).flatten = (List.replicate n c).map V.int := by
  induction n with
  | zero => rfl
  | succ n ih =>
    rw [List.replicate_succ, List.flatten_cons, ih, List.replicate_succ, List.map_cons]
    rfl
theorem atI_int {ns : List Int} {i : Int} (h0 : 0 ≤ i) (h1 : i < ns.length) : atI (ns.map V.int) i = some (.int (ns.getD i.toNat 0)) := by
  refine at_of (j := i.toNat) (by omega) ?_
  have hl : i.toNat < ns.length := by omega
  rw [List.getElem?_map, List.getElem?_eq_getElem hl, List.getD_eq_getElem?_getD, List.getElem?_eq_getElem hl]
  rfl
theorem cut_all {xs : List V} (h : xs.length ≤ 63) : cutV xs none (some 63) = xs := by
  unfold cutV
  rw [HT.sIx_none, show HT.sIx xs.length xs.length (some 63) = min 63 xs.length from HT.sIx_nat xs.length xs.length 63]
  rw [Nat.min_eq_right h]
  show List.take (xs.length - 0) (xs.drop 0) = xs
  rw [Nat.sub_zero, List.drop_zero]
  exact List.take_length
end PA

set_option Elab.async false
set_option linter.all false
set_option maxRecDepth 100000
set_option maxHeartbeats 4000000
namespace PA
open PySem PySem.Spec PyProof.Rows L2 Evl
/-! ### comparisons in a chain of any length, as a test -/
structure PCh (X : Cx) (ops : List CmpOp) (es : List Expr) (t : V → TT) : Prop where
  run : ∀ (pos : Pos) (pins : List (Addr × Obj)) (s : Shared) (σ : L2.St) (H : Hp) (x : V) (v : Value) (Q : Bool → Hp → Prop), Inv X pins σ H s → RelV x v → t x σ H Q → wpAny (model X.prog X.w) X.A (testChain pos v ops (evalEach es X.env)) (TP X pins σ Q) X.xe s
def tLast (r : R2) (tb : TE) : V → TT := fun x σ H Q => tb σ H fun y H1 => r x y H1 fun z H2 => ∃ k, z = .bl k ∧ Q k H2
def tLink (r : R2) (tb : TE) (t : V → TT) : V → TT := fun x σ H Q => tb σ H fun y H1 => r x y H1 fun z H2 => ∃ k, z = .bl k ∧ if k = true then t y σ H2 Q else Q false H2
theorem pch_last {X : Cx} {op : CmpOp} {r : R2} {b : Expr} {tb : TE} (ho : OpR X (compareOp op) r) (hb : PE X b tb) : PCh X [op] [b] (tLast r tb) := by
  refine ⟨fun pos pins s σ H x v Q I rx h => ?_⟩
  refine test_last (thn (hb.run pins s σ H _ I h) fun u s1 ⟨y, H1, I1, r1, q1⟩ => thn (ho pins s1 σ H1 x y v u _ I1 rx r1 q1) fun d s2 ⟨z, H2, I2, r2, k, e, q2⟩ => ?_)
  subst e
  cases r2
  exact wpAny_truthy_bool ⟨H2, I2, q2⟩
theorem pch_link {X : Cx} {op op' : CmpOp} {ops : List CmpOp} {r : R2} {b b' : Expr} {bs : List Expr} {tb : TE} {t : V → TT} (ho : OpR X (compareOp op) r) (hb : PE X b tb) (h : PCh X (op' :: ops) (b' :: bs) t) : PCh X (op :: op' :: ops) (b :: b' :: bs) (tLink r tb t) := by
  refine ⟨fun pos pins s σ H x v Q I rx hw => ?_⟩
  refine test_link (r' := eval b' X.env) (rs := evalEach bs X.env) (thn (hb.run pins s σ H _ I hw) fun u s1 ⟨y, H1, I1, r1, q1⟩ => thn (ho pins s1 σ H1 x y v u _ I1 rx r1 q1) fun d s2 ⟨z, H2, I2, r2, k, e, q2⟩ => ?_)
  subst e
  cases r2
  refine wpAny_truthy_bool ?_
  cases k with
  | false => exact ite_ff ⟨H2, I2, q2⟩
  | true => exact ite_tt (h.run pos pins s2 σ H2 y u Q I2 r1 q2)
theorem pt_chainN {X : Cx} {a : Expr} {ta : TE} {op op' : CmpOp} {ops : List CmpOp} {b b' : Expr} {bs : List Expr} {t : V → TT} {pos : Pos} (ha : PE X a ta) (h : PCh X (op :: op' :: ops) (b :: b' :: bs) t) (hm : lastMarks (op :: op' :: ops) (b :: b' :: bs) = false := by with_unfolding_all rfl) :
    PT X (.Compare a (op :: op' :: ops) (b :: b' :: bs) pos) (fun σ H Q => ta σ H fun x H1 => t x σ H1 Q) := by
  refine ⟨fun pins s σ H Q I hw => ?_⟩
  exact isTrue_chain (thn (ha.run pins s σ H _ I hw) fun v s1 ⟨x, H1, I1, r1, q1⟩ => h.run pos pins s1 σ H1 x v Q I1 r1 q1) hm
section
variable {K : PySem.W.Frag} {σ : L2.St} {H H' : Hp} {ta tb te tx tc : TE} {t u : TT} {x y z v : V} {D : Ends} {tu tw tz : TS} {g : TG} {r r' : R2}
theorem et_chainN {t : V → TT} {b : Bool} (ha : Ev ta σ H x) (h : EvT (t x) σ H b) : EvT (fun σ H Q => ta σ H fun x H1 => t x σ H1 Q) σ H b := fun H1 e _ q => ha H1 e _ fun H2 e2 => h H2 (e.trans e2) _ fun H3 e3 => q H3 (e2.trans e3)
theorem et_last {b : Bool} (hb : Ev tb σ H y) (hr : RV r x y H (.bl b)) : EvT (tLast r tb x) σ H b := fun H1 e _ q => hb H1 e _ fun H2 e2 => hr H2 (e.trans e2) _ fun H3 e3 => ⟨b, rfl, q H3 (e2.trans e3)⟩
theorem et_link {t : V → TT} {k b : Bool} (hb : Ev tb σ H y) (hr : RV r x y H (.bl k)) (h : k = true → EvT (t y) σ H b) : EvT (tLink r tb t x) σ H (k && b) := fun H1 e Q q => hb H1 e _ fun H2 e2 => hr H2 (e.trans e2) _ fun H3 e3 => ⟨k, rfl, by
  cases k with
  | false =>
    rw [if_neg Bool.false_ne_true]
    exact q H3 (e2.trans e3)
  | true =>
    rw [if_pos rfl]
    exact h rfl H3 ((e.trans e2).trans e3) _ fun H4 e4 => q H4 ((e2.trans e3).trans e4)⟩
/-! ### comprehensions over a tuple, over a range from a number on -/
theorem el_lcT {a : Addr} {xs : List V} {tl : TE} {j : Nat} {vs : List Nat} (f : Nat → Bool) (v : Nat → V) (h : Ev tl σ H (.ref a)) (hx : SqT K H a xs) (hz : xs.length ≤ 40000) (hw : ∀ x, wipe ((wipe σ vs).set j (some x)) vs = wipe σ vs)
    (ht : ∀ (i : Nat) (x : V) H1, Ex H H1 → xs[i]? = some x → EvT t ((wipe σ vs).set j (some x)) H1 (f i)) (he : ∀ (i : Nat) (x : V) H1, Ex H H1 → xs[i]? = some x → f i = true → Ev te ((wipe σ vs).set j (some x)) H1 (v i)) :
    EvL (tLc (iTup K tl) (gName j) t te vs) σ H (given xs.length f v) := fun H0 e Q q => h H0 e _ fun H1 e1 => ⟨a, rfl, ⟨xs, ex_t (e.trans e1) hx⟩, fun Dl hD =>
  lc_tup (xs := xs) (Cw H1 f v Dl) ⟨hD, Ex.new hD, upd_same⟩ (fun i H' _ p => ex_t ((e.trans e1).trans p.2.1) hx) (fun i x H' hi p => ⟨hw x, cw_turn p (by have := (List.getElem?_eq_some_iff.mp hi).1; omega) (ht i x H1 (e.trans e1) hi) (fun hf => he i x H1 (e.trans e1) hi hf)⟩)
    (fun H' p => q Dl H' (fresh_back e1 p.1) (e1.trans p.2.1) p.2.2)⟩
theorem el_lcNU {xs : List V} {tl : TE} {j : Nat} {vs : List Nat} (f : Nat → Bool) (v : Nat → V) (h : EvU tl σ H xs) (hz : xs.length ≤ 40000) (hw : ∀ x, wipe ((wipe σ vs).set j (some x)) vs = wipe σ vs)
    (ht : ∀ (i : Nat) (x : V) H1, Ex H H1 → xs[i]? = some x → EvT t ((wipe σ vs).set j (some x)) H1 (f i)) (he : ∀ (i : Nat) (x : V) H1, Ex H H1 → xs[i]? = some x → f i = true → Ev te ((wipe σ vs).set j (some x)) H1 (v i)) :
    EvL (tLc (iTup K tl) (gName j) t te vs) σ H (given xs.length f v) := fun H0 e Q q => h H0 e _ fun a H1 ha e1 hx => ⟨a, rfl, ⟨xs, st_of hx⟩, fun Dl hD =>
  lc_tup (xs := xs) (Cw H1 f v Dl) ⟨hD, Ex.new hD, upd_same⟩ (fun i H' _ p => st_of (p.2.1 a _ hx)) (fun i x H' hi p => ⟨hw x, cw_turn p (by have := (List.getElem?_eq_some_iff.mp hi).1; omega) (ht i x H1 (e.trans e1) hi) (fun hf => he i x H1 (e.trans e1) hi hf)⟩)
    (fun H' p => q Dl H' (fresh_back e1 p.1) (e1.trans p.2.1) p.2.2)⟩
theorem el_lcR2 {ta : TA} {j : Nat} {vs : List Nat} {lo n : Int} (f : Nat → Bool) (v : Nat → V) (h : EvA ta σ H [.int lo, .int n]) (hn : 0 ≤ lo ∧ lo ≤ 40000 ∧ -40000 ≤ n ∧ n ≤ 40000) (hw : ∀ x, wipe ((wipe σ vs).set j (some x)) vs = wipe σ vs)
    (ht : ∀ (i : Nat) H1, Ex H H1 → lo + (i : Int) < n → EvT t ((wipe σ vs).set j (some (.int (lo + (i : Int))))) H1 (f i)) (he : ∀ (i : Nat) H1, Ex H H1 → lo + (i : Int) < n → f i = true → Ev te ((wipe σ vs).set j (some (.int (lo + (i : Int))))) H1 (v i)) :
    EvL (tLc (iRng2 ta) (gName j) t te vs) σ H (given (n - lo).toNat f v) := fun H0 e Q q => h H0 e _ fun H1 e1 => ⟨lo, n, rfl, ⟨by omega, by omega, by omega, by omega⟩, fun Dl hD =>
  lc_range (lo := lo) (n := (n - lo).toNat) (Cw H1 f v Dl) ⟨hD, Ex.new hD, upd_same⟩ (fun i H' hi p => ⟨hw _, cw_turn p (by omega) (ht i H1 (e.trans e1) (by omega)) (fun hf => he i H1 (e.trans e1) (by omega) hf)⟩) (fun H' p => q Dl H' (fresh_back e1 p.1) (e1.trans p.2.1) p.2.2)⟩
theorem ev_lenI {a : Addr} {ns : List Int} (h : Ev ta σ H (.ref a)) (hs : SqL K H a (ns.map V.int)) : Ev (tCB (rLenS K) (tCons ta tNil)) σ H (.int (ns.length : Int)) := ev_is (ev_len h hs) (by rw [List.length_map])
/-- all([..]) of a made list of truths -/
theorem ev_allN {n : Nat} {b : Nat → Bool} (h : EvL te σ H (given n (fun _ => true) (fun i => .bl (b i)))) : Ev (tCB (rAll K) (tCons te tNil)) σ H (.bl ((List.range n).all b)) :=
  ev_cbL h fun p H1 hp _ H2 e2 _ q => ⟨p, (List.range n).map b, rfl, by
    rw [given_all] at hp
    rw [List.map_map]
    exact ex_l e2 (sq_of hp), by
    rw [List.all_map]
    exact q H2 (Ex.refl H2)⟩
theorem ev_allT {n : Nat} (h : EvL te σ H (given n (fun _ => true) (fun _ => .bl true))) : Ev (tCB (rAll K) (tCons te tNil)) σ H (.bl true) := ev_is (ev_allN (b := fun _ => true) h) (by
  have : (List.range n).all (fun _ => true) = true := List.all_eq_true.mpr fun _ _ => rfl
  rw [this])
/-- sorted of whole numbers: whatever is the same list in order -/
theorem el_sorted {a : Addr} {ns ms : List Int} (h : Ev ta σ H (.ref a)) (hs : SqL K H a (ns.map V.int)) (hm : ∀ ns' : List Int, ns'.Perm ns → ns'.Pairwise (· ≤ ·) → ns' = ms) : EvL (tCB (rSortedI K) (tCons ta tNil)) σ H (ms.map V.int) := fun H1 e Q q =>
  h H1 e _ fun H2 e2 => ⟨a, ns, rfl, ex_l (e.trans e2) hs, fun ns' p hp hq hn => by
    have := hm ns' hp hq
    subst this
    exact q p _ (fresh_back e2 hn) (e2.trans (Ex.new hn)) upd_same⟩
theorem rgV_ints (a b : Int) : rgV a b = ((List.range (b - a).toNat).map fun (i : Nat) => a + (i : Int)).map V.int := by
  unfold rgV
  rw [List.map_map]
  rfl
theorem el_listRg {i j : Int} (ha : Ev ta σ H (.int i)) (hb : Ev tb σ H (.int j)) (h0 : 0 ≤ i) (h1 : i ≤ 100000) (h2 : 0 ≤ j) (h3 : j ≤ 100000) : EvL (tLstRg (tRg2 ta tb)) σ H (((List.range (j - i).toNat).map fun (k : Nat) => i + (k : Int)).map V.int) := fun H1 e Q q =>
  ha H1 e _ fun H2 e2 => hb H2 (e.trans e2) _ fun H3 e3 => ⟨i, j, rfl, rfl, RgOk.of_le h0 (by omega) (by omega) h2, fun p hp => by
    rw [rgV_ints]
    exact q p _ (fresh_back (e2.trans e3) hp) ((e2.trans e3).trans (Ex.new hp)) upd_same⟩
end
/-! ### two lists in order with the same numbers are one -/
theorem sorted_eq : ∀ {l m : List Int}, l.Perm m → l.Pairwise (· ≤ ·) → m.Pairwise (· ≤ ·) → l = m
  | [], m, p, _, _ => (List.Perm.nil_eq p)
  | a :: l, [], p, _, _ => by
    have := p.length_eq
    simp at this
  | a :: l, b :: m, p, hl, hm => by
    have ha := List.pairwise_cons.mp hl
    have hb := List.pairwise_cons.mp hm
    have h1 : a ≤ b := by
      rcases List.mem_cons.mp (p.mem_iff.mpr List.mem_cons_self) with e | e
      · rw [e]; exact Int.le_refl _
      · exact ha.1 b e
    have h2 : b ≤ a := by
      rcases List.mem_cons.mp (p.mem_iff.mp List.mem_cons_self) with e | e
      · rw [e]; exact Int.le_refl _
      · exact hb.1 a e
    have e : a = b := by omega
    subst e
    rw [sorted_eq (List.Perm.cons_inv p) ha.2 hb.2]
theorem range_sorted (a : Int) (n : Nat) : ((List.range n).map fun (k : Nat) => a + (k : Int)).Pairwise (· ≤ ·) := by
  rw [List.pairwise_map]
  refine List.Pairwise.imp (fun h => ?_) List.pairwise_lt_range
  omega
theorem range_nodup (a : Int) (n : Nat) : ((List.range n).map fun (k : Nat) => a + (k : Int)).Nodup := by
  unfold List.Nodup
  rw [List.pairwise_map]
  refine List.Pairwise.imp (fun h => ?_) List.pairwise_lt_range
  omega
theorem range_mem {a x : Int} {n : Nat} : x ∈ ((List.range n).map fun (k : Nat) => a + (k : Int)) ↔ a ≤ x ∧ x < a + n := by
  rw [List.mem_map]
  constructor
  · rintro ⟨k, hk, rfl⟩
    have := List.mem_range.mp hk
    omega
  · intro h
    exact ⟨(x - a).toNat, List.mem_range.mpr (by omega), by omega⟩
end PA

set_option maxHeartbeats 4000000
set_option Elab.async false
set_option linter.all false
namespace PA
/-! threes: the number to the last one, and all three -/
def bas (l n : Int) : Int := if n ≤ l then n else num l (n - l - 1)
def three (l n : Int) : List Int := [bas l n, l + fst l (bas l n) + 1, l + fst l (bas l n) + 1 + bas l n]
theorem bas_rng {l n : Int} (hl : Can l) (h1 : 1 ≤ n) (h2 : n ≤ 3 * l) : 1 ≤ bas l n ∧ bas l n ≤ l := by
  unfold bas
  split
  · exact ⟨h1, by assumption⟩
  · have a := at_num hl (show 0 ≤ n - l - 1 by omega) (show n - l - 1 < 2 * l by omega)
    exact a.1
theorem three_in {l n : Int} (hl : Can l) (h1 : 1 ≤ n) (h2 : n ≤ 3 * l) : n ∈ three l n := by
  by_cases h : n ≤ l
  · have e : bas l n = n := if_pos h
    unfold three
    rw [e]
    exact List.mem_cons_self
  · have e : bas l n = num l (n - l - 1) := if_neg h
    have a := at_num hl (show 0 ≤ n - l - 1 by omega) (show n - l - 1 < 2 * l by omega)
    unfold three
    rw [e]
    rcases a.2 with z | z
    · exact List.mem_cons_of_mem _ (List.mem_cons.mpr (.inl (by omega)))
    · exact List.mem_cons_of_mem _ (List.mem_cons_of_mem _ (List.mem_cons.mpr (.inl (by omega))))
theorem three_shape {l n : Int} (hl : Can l) (h1 : 1 ≤ n) (h2 : n ≤ 3 * l) : 1 ≤ bas l n ∧ bas l n ≤ l ∧ l < l + fst l (bas l n) + 1 ∧ l + fst l (bas l n) + 1 < l + fst l (bas l n) + 1 + bas l n ∧ l + fst l (bas l n) + 1 + bas l n ≤ 3 * l := by
  have b := bas_rng hl h1 h2
  have f := fst_rng hl b.1 b.2
  omega
theorem bas_of {l n x : Int} (hl : Can l) (h1 : 1 ≤ n) (h2 : n ≤ 3 * l) (h : x ∈ three l n) : bas l x = bas l n ∧ 1 ≤ x ∧ x ≤ 3 * l := by
  have s := three_shape hl h1 h2
  unfold three at h
  generalize bas l n = m at *
  rcases List.mem_cons.mp h with e | h
  · subst e
    exact ⟨if_pos s.2.1, by omega, by omega⟩
  rcases List.mem_cons.mp h with e | h
  · refine ⟨?_, by omega, by omega⟩
    unfold bas
    rw [if_neg (by omega)]
    exact num_at hl ⟨⟨s.1, s.2.1⟩, .inl (by omega)⟩
  rcases List.mem_cons.mp h with e | h
  · refine ⟨?_, by omega, by omega⟩
    unfold bas
    rw [if_neg (by omega)]
    exact num_at hl ⟨⟨s.1, s.2.1⟩, .inr (by omega)⟩
  · cases h
theorem three_same {l n x : Int} (hl : Can l) (h1 : 1 ≤ n) (h2 : n ≤ 3 * l) (h : x ∈ three l n) : three l x = three l n := by
  unfold three
  rw [(bas_of hl h1 h2 h).1]
def every (l : Int) (k : Nat) : List Int := (List.range k).flatMap fun (i : Nat) => three l ((i : Int) + 1)
theorem every_succ (l : Int) (k : Nat) : every l (k + 1) = every l k ++ three l ((k : Int) + 1) := by
  unfold every
  rw [List.range_succ, List.flatMap_append, List.flatMap_cons, List.flatMap_nil, List.append_nil]
theorem every_in {l : Int} {k : Nat} {x : Int} (h : x ∈ every l k) : ∃ i : Nat, i < k ∧ x ∈ three l ((i : Int) + 1) := by
  obtain ⟨i, hi, hx⟩ := List.mem_flatMap.mp h
  exact ⟨i, List.mem_range.mp hi, hx⟩
theorem every_len (l : Int) : ∀ k : Nat, (every l k).length = 3 * k
  | 0 => rfl
  | k + 1 => by
    rw [every_succ, List.length_append, every_len l k]
    show 3 * k + 3 = _
    omega
theorem bas_low {l n : Int} (h : n ≤ l) : bas l n = n := if_pos h
theorem three_nodup {l n : Int} (hl : Can l) (h1 : 1 ≤ n) (h2 : n ≤ 3 * l) : (three l n).Nodup := by
  have s := three_shape hl h1 h2
  unfold three
  generalize bas l n = m at *
  refine List.nodup_cons.mpr ⟨fun h => ?_, List.nodup_cons.mpr ⟨fun h => ?_, List.nodup_cons.mpr ⟨fun h => (nomatch h), List.nodup_nil⟩⟩⟩
  · rcases List.mem_cons.mp h with e | h
    · omega
    rcases List.mem_cons.mp h with e | h
    · omega
    · cases h
  · rcases List.mem_cons.mp h with e | h
    · omega
    · cases h
theorem every_nodup {l : Int} (hl : Can l) : ∀ k : Nat, (k : Int) ≤ l → (every l k).Nodup
  | 0, _ => List.nodup_nil
  | k + 1, hk => by
    rw [every_succ]
    refine List.nodup_append.mpr ⟨every_nodup hl k (by omega), three_nodup hl (by omega) (by omega), fun a ha b hb e => ?_⟩
    obtain ⟨i, hi, hx⟩ := every_in ha
    have b1 := (bas_of hl (by omega) (by omega) hx).1
    have b2 := (bas_of hl (by omega) (by omega) hb).1
    rw [bas_low (n := (i : Int) + 1) (by omega)] at b1
    rw [bas_low (n := (k : Int) + 1) (by omega)] at b2
    rw [e] at b1
    omega
theorem every_all {l : Int} (hl : Can l) (x : Int) : x ∈ every l l.toNat ↔ 1 ≤ x ∧ x ≤ 3 * l := by
  have h1 := hl.1
  constructor
  · intro h
    obtain ⟨i, hi, hx⟩ := every_in h
    exact (bas_of hl (by omega) (by omega) hx).2
  · intro h
    have b := bas_rng hl h.1 h.2
    refine List.mem_flatMap.mpr ⟨(bas l x - 1).toNat, List.mem_range.mpr (by omega), ?_⟩
    have e : (((bas l x - 1).toNat : Nat) : Int) + 1 = bas l x := by omega
    rw [e]
    have e2 : three l (bas l x) = three l x := by
      unfold three
      rw [bas_low b.2]
    rw [e2]
    exact three_in hl h.1 h.2
end PA

set_option Elab.async false
set_option linter.all false
set_option maxRecDepth 100000
set_option maxHeartbeats 4000000
namespace PA
open PySem PySem.Spec PyProof.Rows L2 Evl
/-! ### an own class without an __init__ of its own -/
structure New0 (K : PySem.W.Frag) (C : Addr) : Prop where
  makes : PySem.W.makesIn K C = true
  init : PySem.W.findIn K (.ref C) "__init__" = some (some (.builtin "object.__init__"))
  kp : PySem.W.keepIn K (.ref C) = true
theorem call_bare {prog : Program} {w : World} {A : Around} {K : PySem.W.Frag} {C : Addr} {R : Result → Shared → Prop} {s : Shared} (X : K.In s.heap) (N : New0 K C)
    (h : R (.ok (.ret (.ref (s.heap.objs.size + 1)))) { s with heap := (s.heap.push PySem.W.emptyDict).push (PySem.W.instObj C s.heap.objs.size) }) : codeAny (model prog w) A (.call (.ref C) ⟨[], []⟩) R s := by
  obtain ⟨hh, g, d, t, os⟩ := s
  have Y := PySem.W.makes_of (M := model prog w) X N.makes
  refine PySem.W.make_core Y (PySem.W.looks_findIn X N.init) (fun self => PySem.W.Looks.of_pure (PySem.W.oi_bind self)) (.inr ⟨rfl, rfl⟩) ?_
  have e2 : ((hh.push PySem.W.emptyDict).push (PySem.W.instObj C hh.objs.size)).get? (hh.objs.size + 1) = some (PySem.W.instObj C hh.objs.size) := by
    have := Heap.get?_push_size (hh.push PySem.W.emptyDict) (o := PySem.W.instObj C hh.objs.size) rfl
    rw [Heap.size_push] at this
    exact this
  have t1 : PySem.W.Looks (model prog w) ((hh.push PySem.W.emptyDict).push (PySem.W.instObj C hh.objs.size)) (typeOf (.ref (hh.objs.size + 1))) (.ref C) := (PySem.W.Looks.ld e2).andThen .now
  have t2 : PySem.W.Looks (model prog w) ((hh.push PySem.W.emptyDict).push (PySem.W.instObj C hh.objs.size)) (isInstance (.ref (hh.objs.size + 1)) (.type "object")) true := t1.andThen (Y.top.keeps fun b o e => Heap.get?_push_of_some _ (Heap.get?_push_of_some _ e))
  refine codeAny_call_builtin PySem.W.oi_plain PySem.W.entry_oi (@PySem.W.check_slot (model prog w) _ _ _ "object.__init__" "object" "__init__" (.ref (hh.objs.size + 1)) [] [] _ PySem.W.oi_kind PySem.W.oi_split t2 (PySem.W.oi_args (.ref (hh.objs.size + 1))) ?_)
  rw [PySem.W.oi_run]
  exact wpAny_pure (And.intro rfl h)
/-- C() -/
def tNew (C : Addr) : TE := fun _ H Q => ∀ x dx, H x = none → H dx = none → dx ≠ x → Q (.ref x) (upd (upd H dx (.own x)) x (.ins C dx []))
theorem pe_new0 {X : Cx} {C : Addr} {x : Str} {p pos : Pos} (N : New0 X.K C) (hg : Gl X x) (hm : X.mg x = some (.ref C)) (hdb : (x == ("__debug__" : Str)) = false := by decide) : PE X (.Call (.Name x p) [] [] pos) (tNew C) := by
  refine ⟨fun pins s σ H Q I h => ?_⟩
  refine wpAny_Call_Name_kw (ld_glob I hg hm ?_ hdb)
  refine PySem.W.callWith_K0 I.kIn N.kp (wpAny_call (call_bare I.kIn N ?_))
  exact ⟨V.ref (s.heap.objs.size + 1), _, Inv.made (C := C) I, rfl, h _ _ (I.hok.fresh (Nat.le_succ _)) (I.hok.fresh (Nat.le_refl _)) (Nat.ne_of_lt (Nat.lt_succ_self _))⟩
/-- either reading -/
theorem PE.or {X : Cx} {e : Expr} {t u : TE} (h : PE X e t) (h' : PE X e u) : PE X e (fun σ H Q => t σ H Q ∨ u σ H Q) := ⟨fun pins s σ H Q I hw => by
  rcases hw with hw | hw
  · exact h.run pins s σ H Q I hw
  · exact h'.run pins s σ H Q I hw⟩
/-! ### what isinstance asks of an instance -/
structure InsT (K : PySem.W.Frag) (C : Addr) : Prop where
  cl : Cls K C
  ha : PySem.W.findIn K (.ref C) "__class__" = some (some (.builtin "object.__class__"))
  hn : PySem.W.specialIn K (.builtin "object.__class__") "__get__" = some (some (.builtin "getset_descriptor.__get__"))
  htk : PySem.W.takesIn K (.builtin "object.__class__") = some true
  hm : PySem.W.mroIn K C (.type "object") = some true
theorem InsT.ty {K : PySem.W.Frag} {C : Addr} (h : InsT K C) {H : Hp} {a dx : Addr} {fs : List (Str × V)} (e : H a = some (.ins C dx fs)) : TyX K H (.ref a) (.ref C) := .base (.ins e h.cl h.ha h.hn h.htk h.hm)
section
variable {K : PySem.W.Frag} {σ : L2.St} {H H' : Hp} {ta tb te tx tc : TE} {t u : TT} {x y z v : V} {D : Ends} {tu tw tz : TS} {g : TG} {r r' : R2}
/-- a new instance of the class at C with these attributes -/
def EvI (te : TE) (σ : L2.St) (H : Hp) (C : Addr) (fs : List (Str × V)) : Prop := ∀ H1, Ex H H1 → ∀ Q : VK, (∀ p dx H2, H1 p = none → Ex H1 H2 → H2 p = some (.ins C dx fs) → Q (.ref p) H2) → te σ H1 Q
theorem ei_new {C : Addr} : EvI (tNew C) σ H C [] := fun H1 e Q q p dx hp hdx ne => q p dx _ hp (fun b o hb => by
  rw [upd_ne (ne_of_none hb hp), upd_ne (ne_of_none hb hdx)]
  exact hb) upd_same
/-- C(v), its __init__ storing one attribute -/
def sp_init1 (C : Addr) (f : Str) : Sp := fun vs H Q _ => ∃ (p dx : Addr) (v : V), vs = [.ref p, v] ∧ H p = some (.ins C dx []) ∧ Q .non (upd H p (.ins C dx [(f, v)]))
theorem ei_make {C : Addr} {f : Str} {t : TA} {E : XK} (h : EvA t σ H [v]) : EvI (tMake C (sp_init1 C f) [] E t) σ H C [(f, v)] := fun H1 e Q q => h H1 e _ fun H2 e2 p dx hp hdx ne =>
  ⟨p, dx, v, rfl, upd_same, rfl, q p dx _ (fresh_back e2 hp) (fun b o hb => by
    have hb2 := e2 _ _ hb
    rw [upd_ne (ne_of_none hb2 hp), upd_ne (ne_of_none hb2 hp), upd_ne (ne_of_none hb2 hdx)]
    exact hb2) upd_same⟩
theorem ev_methN {C : Addr} {fs : List (Str × V)} {m : Str} {sp : Sp} {E : XK} {t : TA} {vs : List V} (hi : EvI ta σ H C fs) (hl : fs.lookup m = none) (ha : EvA t σ H vs) (hs : ∀ p dx H1, Ex H H1 → H1 p = some (.ins C dx fs) → SpV sp (.ref p :: vs) H1 z) : Ev (tMeth C m sp [] E ta t) σ H z := fun H1 e Q q =>
  hi H1 e _ fun p dx H2 hp e2 h2 => ⟨p, dx, fs, rfl, h2, hl, ha H2 (e.trans e2) _ fun H3 e3 => by
    rw [List.append_nil]
    exact hs p dx H3 ((e.trans e2).trans e3) (e3 _ _ h2) H3 (Ex.refl H3) Q (fun H4 e4 => q H4 ((e2.trans e3).trans e4)) E⟩
theorem ev_methV {C p dx : Addr} {fs : List (Str × V)} {m : Str} {sp : Sp} {E : XK} {t : TA} {vs : List V} (hp : H p = some (.ins C dx fs)) (hv : Ev ta σ H (.ref p)) (hl : fs.lookup m = none) (ha : EvA t σ H vs) (hs : SpV sp (.ref p :: vs) H z) : Ev (tMeth C m sp [] E ta t) σ H z := fun H1 e Q q =>
  hv H1 e _ fun H2 e2 => ⟨p, dx, fs, rfl, (e.trans e2) _ _ hp, hl, ha H2 (e.trans e2) _ fun H3 e3 => by
    rw [List.append_nil]
    exact hs H3 ((e.trans e2).trans e3) Q (fun H4 e4 => q H4 ((e2.trans e3).trans e4)) E⟩
theorem ev_orL {ta tb : TE} (h : Ev ta σ H v) : Ev (fun σ H Q => ta σ H Q ∨ tb σ H Q) σ H v := fun H1 e Q q => .inl (h H1 e Q q)
theorem ev_orR {ta tb : TE} (h : Ev tb σ H v) : Ev (fun σ H Q => ta σ H Q ∨ tb σ H Q) σ H v := fun H1 e Q q => .inr (h H1 e Q q)
theorem ev_fld {C p dx : Addr} {fs : List (Str × V)} {f : Str} (hp : H p = some (.ins C dx fs)) (hv : Ev ta σ H (.ref p)) (c : Cls K C) (n : NoAttr K C f) (hl : fs.lookup f = some v) : Ev (tFld K ta f) σ H v := fun H1 e Q q =>
  hv H1 e _ fun H2 e2 => ⟨p, C, dx, fs, v, rfl, (e.trans e2) _ _ hp, c, n, hl, q H2 e2⟩
/-- a statement x = C(..) -/
theorem q_asgI {i : Nat} {C : Addr} {fs : List (Str × V)} (h : EvI te σ H C fs) (k : ∀ p dx H1, H p = none → Ex H H1 → H1 p = some (.ins C dx fs) → tz D (σ.set i (some (.ref p))) H1) : tSeq (tAsg te (gName i)) tz D σ H := h H (Ex.refl H) _ fun p dx H1 hp e h1 => k p dx H1 hp e h1
theorem s_retI {C : Addr} {fs : List (Str × V)} (h : EvI te σ H C fs) (k : ∀ p dx H1, H p = none → Ex H H1 → H1 p = some (.ins C dx fs) → D.rt (.ref p) H1) : tRet te D σ H := h H (Ex.refl H) _ k
/-- a def that hands back a new instance -/
def RetI (C : Addr) (fs : List (Str × V)) (H : Hp) (Q : VK) : Prop := ∀ p dx H2, H p = none → Ex H H2 → H2 p = some (.ins C dx fs) → Q (.ref p) H2
theorem RetI.go {C : Addr} {fs : List (Str × V)} {Q : VK} (k : RetI C fs H Q) (e : Ex H H') {p dx : Addr} {H2 : Hp} (hp : H' p = none) (e2 : Ex H' H2) (h : H2 p = some (.ins C dx fs)) : Q (.ref p) H2 := k p dx H2 (fresh_back e hp) (e.trans e2) h
def SpI (sp : Sp) (vs : List V) (H : Hp) (C : Addr) (fs : List (Str × V)) : Prop := ∀ H1, Ex H H1 → ∀ Q : VK, (∀ p dx H2, H1 p = none → Ex H1 H2 → H2 p = some (.ins C dx fs) → Q (.ref p) H2) → ∀ E : XK, sp vs H1 Q E
theorem ei_call {sp : Sp} {dvs vs : List V} {E : XK} {ta : TA} {C : Addr} {fs : List (Str × V)} (h : EvA ta σ H vs) (hs : SpI sp (vs ++ dvs) H C fs) : EvI (tCall sp dvs E ta) σ H C fs := fun H1 e Q q =>
  h H1 e _ fun H2 e2 => hs H2 (e.trans e2) Q (fun p dx H3 hp e3 h3 => q p dx H3 (fresh_back e2 hp) (e2.trans e3) h3) E
/-- a comprehension over enumerate(a list) -/
theorem el_lcE {a : Addr} {xs : List V} {tl : TE} {j1 j2 : Nat} {vs : List Nat} (f : Nat → Bool) (v : Nat → V) (h : Ev tl σ H (.ref a)) (hx : SqL K H a xs) (hz : xs.length ≤ 40000) (hw : ∀ x y, wipe (((wipe σ vs).set j1 (some x)).set j2 (some y)) vs = wipe σ vs)
    (ht : ∀ (i : Nat) (x : V) H1, Ex H H1 → xs[i]? = some x → EvT t (((wipe σ vs).set j1 (some (.int (i : Nat)))).set j2 (some x)) H1 (f i)) (he : ∀ (i : Nat) (x : V) H1, Ex H H1 → xs[i]? = some x → f i = true → Ev te (((wipe σ vs).set j1 (some (.int (i : Nat)))).set j2 (some x)) H1 (v i)) :
    EvL (tLc (iEnum K (tCons tl tNil)) (gTup K 2 (gCons (gName j1) (gCons (gName j2) gNil))) t te vs) σ H (given xs.length f v) := fun H0 e Q q => h H0 e _ fun H1 e1 => ⟨a, xs, rfl, ex_l (e.trans e1) hx, fun Dl hD =>
  ⟨fun i m H' => m = xs.length - i ∧ i ≤ xs.length ∧ Cw H1 f v Dl i H', ⟨xs.length, by simp, Nat.zero_le _, hD, Ex.new hD, upd_same⟩, fun i m H' hW => by
    obtain ⟨em, hi, p⟩ := hW
    have hs : SqL K H' a xs := ex_l ((e.trans e1).trans p.2.1) hx
    by_cases hlt : i < xs.length
    · refine .inr ⟨⟨xs, xs[i], hs, List.getElem?_eq_getElem hlt⟩, Cw H1 f v Dl (i + 1), fun H'' p' => ⟨xs.length - (i + 1), by omega, rfl, hlt, p'⟩, fun y H'' hy => ?_⟩
      obtain ⟨T, x, rfl, hT, rfl, hg⟩ := hy
      have gx := hg xs hs
      have nD : Dl ≠ T := ne_of_none p.2.2 hT
      have p2 : Cw H1 f v Dl i (upd H' T (.tup [.int (i : Nat), x])) := ⟨p.1, p.2.1.trans (Ex.new hT), by rw [upd_ne nD]; exact p.2.2⟩
      exact ⟨T, _, rfl, st_of upd_same, rfl, _, _, rfl, _, _, rfl, rfl, hw _ _, cw_turn p2 (by omega) (ht i x H1 (e.trans e1) gx) fun hf => he i x H1 (e.trans e1) gx hf⟩
    · have ei : i = xs.length := by omega
      subst ei
      exact .inl ⟨⟨xs, hs, Nat.le_refl _⟩, q Dl H' (fresh_back e1 p.1) (e1.trans p.2.1) p.2.2⟩⟩⟩
end
end PA

set_option Elab.async false
set_option linter.all false
set_option maxRecDepth 100000
set_option maxHeartbeats 4000000
namespace PA
open PySem PySem.Spec PyProof.Rows L2 Evl
/-- a list of whole numbers that may be read, not too long -/
def IntL (K : PySem.W.Frag) (v : V) (H : Hp) : Prop := ∃ (a : Addr) (ns : List Int), v = .ref a ∧ SqL K H a (ns.map V.int) ∧ ns.length ≤ 1000
def Stab (P : V → Hp → Prop) : Prop := ∀ v H H', Ex H H' → P v H → P v H'
theorem intL_stab {K : PySem.W.Frag} : Stab (IntL K) := fun v H H' e h => by
  obtain ⟨a, ns, rfl, hs, hl⟩ := h
  exact ⟨a, ns, rfl, ex_l e hs, hl⟩
section
variable {K : PySem.W.Frag} {σ : L2.St} {H H' : Hp} {ta tb te tx tc : TE} {t u : TT} {x y z v : V} {D : Ends} {tu tw tz : TS} {g : TG} {r r' : R2} {P : V → Hp → Prop}
/-- a value of which P holds -/
def EvQ (te : TE) (σ : L2.St) (H : Hp) (P : V → Hp → Prop) : Prop := ∀ H1, Ex H H1 → ∀ Q : VK, (∀ v H2, Ex H1 H2 → P v H2 → Q v H2) → te σ H1 Q
/-- n values of each of which P holds -/
def EvAP (ta : TA) (σ : L2.St) (H : Hp) (P : V → Hp → Prop) (n : Nat) : Prop := ∀ H1, Ex H H1 → ∀ Q : List V → Hp → Prop, (∀ vs H2, Ex H1 H2 → vs.length = n → (∀ v ∈ vs, P v H2) → Q vs H2) → ta σ H1 Q
theorem eap_nil : EvAP tNil σ H P 0 := fun H1 _ _ q => q [] H1 (Ex.refl H1) rfl fun _ h => nomatch h
theorem eap_cons {tr : TA} {n : Nat} (st : Stab P) (h : EvQ ta σ H P) (hr : EvAP tr σ H P n) : EvAP (tCons ta tr) σ H P (n + 1) := fun H1 e _ q =>
  h H1 e _ fun x H2 e2 hx => hr H2 (e.trans e2) _ fun vs H3 e3 hl hv => q (x :: vs) H3 (e2.trans e3) (by rw [List.length_cons, hl]) fun v hm => by
    rcases List.mem_cons.mp hm with e | e
    · subst e
      exact st _ _ _ e3 hx
    · exact hv v e
theorem eq_val (h : Ev te σ H v) (hp : ∀ H1, Ex H H1 → P v H1) : EvQ te σ H P := fun H1 e _ q => h H1 e _ fun H2 e2 => q v H2 e2 (hp H2 (e.trans e2))
theorem eq_new {ns : List Int} (h : EvL te σ H (ns.map V.int)) (hl : ns.length ≤ 1000) : EvQ te σ H (IntL K) := fun H1 e _ q => h H1 e _ fun p H2 hp e2 h2 => q _ H2 e2 ⟨p, ns, rfl, sq_of h2, hl⟩
theorem eq_old {a : Addr} {ns : List Int} (h : Ev te σ H (.ref a)) (hs : SqL K H a (ns.map V.int)) (hl : ns.length ≤ 1000) : EvQ te σ H (IntL K) := eq_val h fun H1 e => ⟨a, ns, rfl, ex_l e hs, hl⟩
theorem eq_imp {P' : V → Hp → Prop} (h : EvQ te σ H P) (hi : ∀ v H1, P v H1 → P' v H1) : EvQ te σ H P' := fun H1 e _ q => h H1 e _ fun v H2 e2 hv => q v H2 e2 (hi v H2 hv)
/-- over a list in a slot -/
theorem s_forV {a : Addr} {xs : List V} {tl : TE} {j : Nat} (h : Ev tl σ H (.ref a)) (hx : SqL K H a xs) (S : L2.St → Prop) (h0 : S σ)
    (hs : ∀ x σ' H' H0, Ex H H' → Ex H0 H' → x ∈ xs → S σ' → tu { D with nx := fun σ2 H2 => S σ2 ∧ Ex H0 H2, ct := fun σ2 H2 => S σ2 ∧ Ex H0 H2, bk := D.nx } (σ'.set j (some x)) H') (hd : ∀ σ' H', Ex H H' → S σ' → D.nx σ' H') : tFor (iList K tl) (gName j) tu D σ H :=
  h H (Ex.refl H) _ fun H1 e => ⟨a, rfl, ⟨xs, ex_l e hx⟩, for_list (K := K) (xs := xs) (fun _ σ' H' => S σ' ∧ Ex H1 H') ⟨h0, Ex.refl _⟩ (fun i σ' H' _ w => ex_l (e.trans w.2) hx) (fun i x σ' H' hi w => hs x σ' H' H1 (e.trans w.2) w.2 (List.mem_of_getElem? hi) w.1) fun σ' H' w => hd σ' H' (e.trans w.2) w.1⟩
theorem q_forV {a : Addr} {xs : List V} {tl : TE} {j : Nat} (h : Ev tl σ H (.ref a)) (hx : SqL K H a xs) (S : L2.St → Prop) (h0 : S σ)
    (hs : ∀ x σ' H' H0, Ex H H' → Ex H0 H' → x ∈ xs → S σ' → tu { D with nx := fun σ2 H2 => S σ2 ∧ Ex H0 H2, ct := fun σ2 H2 => S σ2 ∧ Ex H0 H2, bk := tz D } (σ'.set j (some x)) H') (hd : ∀ σ' H', Ex H H' → S σ' → tz D σ' H') : tSeq (tFor (iList K tl) (gName j) tu) tz D σ H := s_forV (D := { D with nx := tz D }) h hx S h0 hs hd
/-- over a new list -/
theorem s_forN {xs : List V} {tl : TE} {j : Nat} (h : EvL tl σ H xs) (S : L2.St → Prop) (h0 : S σ)
    (hs : ∀ x σ' H' H0, Ex H H' → Ex H0 H' → x ∈ xs → S σ' → tu { D with nx := fun σ2 H2 => S σ2 ∧ Ex H0 H2, ct := fun σ2 H2 => S σ2 ∧ Ex H0 H2, bk := D.nx } (σ'.set j (some x)) H') (hd : ∀ σ' H', Ex H H' → S σ' → D.nx σ' H') : tFor (iList K tl) (gName j) tu D σ H :=
  h H (Ex.refl H) _ fun a H1 ha e hx => ⟨a, rfl, ⟨xs, sq_of hx⟩, for_list (K := K) (xs := xs) (fun _ σ' H' => S σ' ∧ Ex H1 H') ⟨h0, Ex.refl _⟩ (fun i σ' H' _ w => sq_of (w.2 _ _ hx)) (fun i x σ' H' hi w => hs x σ' H' H1 (e.trans w.2) w.2 (List.mem_of_getElem? hi) w.1) fun σ' H' w => hd σ' H' (e.trans w.2) w.1⟩
/-- over a new list of values with P -/
theorem q_forP {ta : TA} {j n : Nat} (st : Stab P) (h : EvAP ta σ H P n) (hn : n ≤ 100000) (S : L2.St → Prop) (h0 : S σ)
    (hs : ∀ x σ' H' H0, Ex H H' → Ex H0 H' → P x H' → S σ' → tu { D with nx := fun σ2 H2 => S σ2 ∧ Ex H0 H2, ct := fun σ2 H2 => S σ2 ∧ Ex H0 H2, bk := tz D } (σ'.set j (some x)) H') (hd : ∀ σ' H', Ex H H' → S σ' → tz D σ' H') : tSeq (tFor (iList K (tLst ta)) (gName j) tu) tz D σ H :=
  h H (Ex.refl H) _ fun vs H1 e1 hl hv => ⟨sz_of (by omega), fun p hp => ⟨p, rfl, ⟨vs, sq_of upd_same⟩, for_list (K := K) (xs := vs) (D := { D with nx := tz D }) (fun _ σ' H' => S σ' ∧ Ex (upd H1 p (.lst vs)) H') ⟨h0, Ex.refl _⟩ (fun i σ' H' _ w => sq_of (w.2 _ _ upd_same)) (fun i x σ' H' hi w =>
    hs x σ' H' _ (e1.trans ((Ex.new hp).trans w.2)) w.2 (st _ _ _ ((Ex.new hp).trans w.2) (hv x (List.mem_of_getElem? hi))) w.1) fun σ' H' w => hd σ' H' (e1.trans ((Ex.new hp).trans w.2)) w.1⟩⟩
theorem q_asgQ {i : Nat} (h : EvQ te σ H P) (k : ∀ v H1, Ex H H1 → P v H1 → tz D (σ.set i (some v)) H1) : tSeq (tAsg te (gName i)) tz D σ H := h H (Ex.refl H) _ fun v H1 e hv => k v H1 e hv
theorem eq_if {b : Bool} (h : EvT t σ H b) (h1 : b = true → EvQ ta σ H P) (h2 : b = false → EvQ tb σ H P) : EvQ (tIf t ta tb) σ H P := fun H1 e Q q => h H1 e _ fun H2 e2 => by
  cases b with
  | true => exact h1 rfl H2 (e.trans e2) _ fun v H3 e3 hv => q v H3 (e2.trans e3) hv
  | false => exact h2 rfl H2 (e.trans e2) _ fun v H3 e3 hv => q v H3 (e2.trans e3) hv
/-- a method called with a new list -/
theorem ev_methL {C : Addr} {fs : List (Str × V)} {m : Str} {sp : Sp} {E : XK} {xs : List V} (hi : EvI ta σ H C fs) (hl : fs.lookup m = none) (ha : EvL te σ H xs) (hs : ∀ p dx q H1, Ex H H1 → H1 p = some (.ins C dx fs) → H1 q = some (.lst xs) → SpV sp [.ref p, .ref q] H1 z) : Ev (tMeth C m sp [] E ta (tCons te tNil)) σ H z := fun H1 e Q q =>
  hi H1 e _ fun p dx H2 hp e2 h2 => ⟨p, dx, fs, rfl, h2, hl, ha H2 (e.trans e2) _ fun r H3 hr e3 h3 => hs p dx r H3 ((e.trans e2).trans e3) (e3 _ _ h2) h3 H3 (Ex.refl H3) Q (fun H4 e4 => q H4 ((e2.trans e3).trans e4)) E⟩
theorem el_listRgN {i j : Int} (ha : Ev ta σ H (.int i)) (hb : Ev tb σ H (.int j)) (h0 : -1000 ≤ i) (h1 : i ≤ 100000) (h2 : -1000 ≤ j) (h3 : j ≤ 100000) : EvL (tLstRg (tRg2 ta tb)) σ H (((List.range (j - i).toNat).map fun (k : Nat) => i + (k : Int)).map V.int) := fun H1 e Q q =>
  ha H1 e _ fun H2 e2 => hb H2 (e.trans e2) _ fun H3 e3 => ⟨i, j, rfl, rfl, ⟨by omega, by omega, by omega, by omega, by omega⟩, fun p hp => by
    rw [rgV_ints]
    exact q p _ (fresh_back (e2.trans e3) hp) ((e2.trans e3).trans (Ex.new hp)) upd_same⟩
theorem rv_isB {a b : Bool} : RV (fun x y H Q => ∃ a b, x = V.bl a ∧ y = V.bl b ∧ Q (.bl (decide (a = b))) H) (.bl a) (.bl b) H (.bl (decide (a = b))) := fun H1 _ _ q => ⟨a, b, rfl, rfl, q H1 (Ex.refl H1)⟩
theorem rv_isntB {a b : Bool} : RV (fun x y H Q => ∃ a b, x = V.bl a ∧ y = V.bl b ∧ Q (.bl (!decide (a = b))) H) (.bl a) (.bl b) H (.bl (!decide (a = b))) := fun H1 _ _ q => ⟨a, b, rfl, rfl, q H1 (Ex.refl H1)⟩
/-- over range(n) -/
theorem q_forR1S {ta : TA} {j : Nat} {n : Int} (h : EvA ta σ H [.int n]) (hn : 0 ≤ n ∧ n ≤ 100000) (S : L2.St → Prop) (h0 : S σ)
    (hs : ∀ (i : Nat) σ' H' H0, (i : Int) < n → Ex H H' → Ex H0 H' → S σ' → tu { D with nx := fun σ2 H2 => S σ2 ∧ Ex H0 H2, ct := fun σ2 H2 => S σ2 ∧ Ex H0 H2, bk := tz D } (σ'.set j (some (.int (i : Int)))) H') (hd : ∀ σ' H', Ex H H' → S σ' → tz D σ' H') : tSeq (tFor (iRng1 ta) (gName j) tu) tz D σ H :=
  q_forR1 h hn (fun _ σ' H' => S σ' ∧ Ex H H') (fun H1 e => ⟨h0, e⟩) (fun i σ' H' hi w => hs i σ' H' H hi w.2 w.2 w.1) fun σ' H' w => hd σ' H' w.2 w.1
/-- isinstance of what has P -/
theorem ev_isiQ {c : V} {cu : Value} {b : Bool} (h : EvQ ta σ H P) (hP : ∀ v H1, P v H1 → ∃ ty, TyX K H1 v ty ∧ PySem.W.kitOne K ty cu = some b) (hc : ClsV c cu) (hb : ∀ H1, Ev tb σ H1 c) (st : Stab P) : Ev (tCB (rIsi K) (tCons ta (tCons tb tNil))) σ H (.bl b) := fun H1 e Q q =>
  h H1 e _ fun x H2 e2 hx => hb H2 H2 (Ex.refl _) _ fun H3 e3 => by
    obtain ⟨ty, ht, hk⟩ := hP x H3 (st _ _ _ e3 hx)
    exact ⟨x, c, ty, cu, b, rfl, hc, ht, hk, q H3 (e2.trans e3)⟩
theorem ev_fldQ {f : Str} (h : EvQ ta σ H P) (hP : ∀ v H1, P v H1 → ∃ p C dx fs, v = .ref p ∧ H1 p = some (.ins C dx fs) ∧ Cls K C ∧ NoAttr K C f ∧ fs.lookup f = some z) : Ev (tFld K ta f) σ H z := fun H1 e Q q =>
  h H1 e _ fun x H2 e2 hx => by
    obtain ⟨p, C, dx, fs, rfl, hp, c, n, l⟩ := hP x H2 hx
    exact ⟨p, C, dx, fs, z, rfl, hp, c, n, l, q H2 e2⟩
def SpQ (sp : Sp) (vs : List V) (H : Hp) (P : V → Hp → Prop) : Prop := ∀ H1, Ex H H1 → ∀ Q : VK, (∀ v H2, Ex H1 H2 → P v H2 → Q v H2) → ∀ E : XK, sp vs H1 Q E
theorem eq_call {sp : Sp} {dvs vs : List V} {E : XK} {ta : TA} (h : EvA ta σ H vs) (hs : SpQ sp (vs ++ dvs) H P) : EvQ (tCall sp dvs E ta) σ H P := fun H1 e Q q => h H1 e _ fun H2 e2 => hs H2 (e.trans e2) Q (fun v H3 e3 hv => q v H3 (e2.trans e3) hv) E
theorem eq_callL {sp : Sp} {xs : List V} {E : XK} (h : EvL te σ H xs) (hs : ∀ p H1, Ex H H1 → H1 p = some (.lst xs) → SpQ sp [.ref p] H1 P) : EvQ (tCall sp [] E (tCons te tNil)) σ H P := fun H1 e Q q =>
  h H1 e _ fun p H2 hp e2 h2 => hs p H2 (e.trans e2) h2 H2 (Ex.refl _) Q (fun v H3 e3 hv => q v H3 (e2.trans e3) hv) E
theorem el_callL {sp : Sp} {xs ys : List V} {E : XK} (h : EvL te σ H xs) (hs : ∀ p H1, Ex H H1 → H1 p = some (.lst xs) → SpL sp [.ref p] H1 ys) : EvL (tCall sp [] E (tCons te tNil)) σ H ys := fun H1 e Q q =>
  h H1 e _ fun p H2 hp e2 h2 => hs p H2 (e.trans e2) h2 H2 (Ex.refl _) Q (fun r H3 hr e3 h3 => q r H3 (fresh_back e2 hr) (e2.trans e3) h3) E
theorem ev_call2L {sp : Sp} {xs : List V} {E : XK} (ha : Ev ta σ H x) (h : EvL te σ H xs) (hs : ∀ p H1, Ex H H1 → H1 p = some (.lst xs) → SpV sp [x, .ref p] H1 z) : Ev (tCall sp [] E (tCons ta (tCons te tNil))) σ H z := fun H1 e Q q =>
  ha H1 e _ fun H2 e2 => h H2 (e.trans e2) _ fun p H3 hp e3 h3 => hs p H3 ((e.trans e2).trans e3) h3 H3 (Ex.refl _) Q (fun H4 e4 => q H4 ((e2.trans e3).trans e4)) E
theorem eq_sorted {a : Addr} {ns : List Int} (h : Ev ta σ H (.ref a)) (hs : SqL K H a (ns.map V.int)) (hP : ∀ (ns' : List Int) p H1, ns'.Perm ns → H1 p = some (.lst (ns'.map V.int)) → P (.ref p) H1) : EvQ (tCB (rSortedI K) (tCons ta tNil)) σ H P := fun H1 e Q q =>
  h H1 e _ fun H2 e2 => ⟨a, ns, rfl, ex_l (e.trans e2) hs, fun ns' p hp hq hn => q _ _ (e2.trans (Ex.new hn)) (hP ns' p _ hp upd_same)⟩
theorem el_rev {a : Addr} {xs : List V} (h : Ev te σ H (.ref a)) (hs : SqL K H a xs) : EvL (tRevL K te) σ H xs.reverse := fun H1 e Q q =>
  h H1 e _ fun H2 e2 => ⟨a, xs, rfl, ex_l (e.trans e2) hs, fun p hp => q p _ (fresh_back e2 hp) (e2.trans (Ex.new hp)) upd_same⟩
/-- a[i], a[j] = v, w -/
theorem q_swap {l : Addr} {xs : List V} {i j : Nat} {ti tj : TE} {w : V} (hl : H l = some (.lst xs)) (h : EvU te σ H [v, w]) (ha : ∀ H1, Ev ta σ H1 (.ref l)) (hb : ∀ H1, Ev tb σ H1 (.ref l)) (hi : ∀ H1, Ev ti σ H1 (.int (i : Int))) (hj : ∀ H1, Ev tj σ H1 (.int (j : Int))) (li : i < xs.length) (lj : j < xs.length)
    (k : ∀ H1, (∀ b o, b ≠ l → H b = some o → H1 b = some o) → H1 l = some (.lst ((xs.set i v).set j w)) → tz D σ H1) : tSeq (tAsg te (gTup K 2 (gCons (gSub ta ti rSetL) (gCons (gSub tb tj rSetL) gNil)))) tz D σ H :=
  h H (Ex.refl H) _ fun p H1 hp e1 h1 => ⟨p, _, rfl, st_of h1, rfl, _, _, rfl, ha H1 H1 (Ex.refl _) _ fun H2 e2 => hi H2 H2 (Ex.refl _) _ fun H3 e3 =>
    ⟨l, xs, (i : Int), i, rfl, rfl, ((e1.trans e2).trans e3) _ _ hl, ixN_nat li, _, _, rfl, hb _ _ (Ex.refl _) _ fun H4 e4 => hj H4 H4 (Ex.refl _) _ fun H5 e5 =>
      ⟨l, xs.set i v, (j : Int), j, rfl, rfl, (e4.trans e5) _ _ upd_same, ixN_nat (by rw [List.length_set]; exact lj), rfl, k _ (fun b o nb hb => by
        rw [upd_ne nb]
        refine (e4.trans e5) _ _ ?_
        rw [upd_ne nb]
        exact ((e1.trans e2).trans e3) _ _ hb) upd_same⟩⟩⟩
theorem q_par {i j : Nat} {ta : TA} {w : V} (h : EvA ta σ H [v, w]) (k : ∀ H1, Ex H H1 → tz D ((σ.set i (some v)).set j (some w)) H1) : tSeq (tPar i j ta) tz D σ H := h H (Ex.refl H) _ fun H1 e => ⟨v, w, rfl, k H1 e⟩
/-- stores at l alone, l new -/
theorem ex_but {H0 H1 H2 : Hp} {l : Addr} (e : Ex H0 H1) (h : H0 l = none) (k : ∀ b o, b ≠ l → H1 b = some o → H2 b = some o) : Ex H0 H2 := fun b o hb => k b o (ne_of_none hb h) (e _ _ hb)
end
theorem cut_take (xs : List V) (n : Nat) : cutV xs none (some (n : Int)) = xs.take n := by
  unfold cutV
  rw [HT.sIx_none, show HT.sIx xs.length xs.length (some (n : Int)) = min n xs.length from HT.sIx_nat xs.length xs.length n]
  show List.take (min n xs.length - 0) (xs.drop 0) = _
  rw [Nat.sub_zero, List.drop_zero]
  by_cases h : n ≤ xs.length
  · rw [Nat.min_eq_left h]
  · rw [Nat.min_eq_right (by omega), List.take_length, List.take_of_length_le (by omega)]
theorem cut_init (xs : List V) (x : V) : cutV (xs ++ [x]) none (some (-1)) = xs := by
  unfold cutV
  rw [HT.sIx_none]
  have e : HT.sIx (xs ++ [x]).length (xs ++ [x]).length (some (-1)) = xs.length := by
    unfold HT.sIx
    simp
    try omega
  rw [e]
  show List.take (xs.length - 0) ((xs ++ [x]).drop 0) = xs
  rw [Nat.sub_zero, List.drop_zero]
  simp
theorem tyx_sq {K : PySem.W.Frag} {H : Hp} {a : Addr} {xs : List V} (h : SqL K H a xs) : TyX K H (.ref a) (.type "list") := by
  rcases h with (h | ⟨o, h⟩) | ⟨o, its, n, h, hc, _⟩
  · exact .base (.lst h)
  · exact .base (.frz h)
  · exact .kList h hc
theorem cut_drop (xs : List V) (n : Nat) : cutV xs (some (n : Int)) none = xs.drop n := by
  unfold cutV
  rw [HT.sIx_none, show HT.sIx xs.length 0 (some (n : Int)) = min n xs.length from HT.sIx_nat xs.length 0 n]
  by_cases h : n ≤ xs.length
  · rw [Nat.min_eq_left h, List.take_of_length_le (by rw [List.length_drop]; omega)]
  · rw [Nat.min_eq_right (by omega), List.drop_length, List.drop_of_length_le (by omega)]
    exact List.take_nil
end PA

set_option maxHeartbeats 4000000
set_option Elab.async false
set_option linter.all false
namespace PA
/-! where a number stands in a list, and whether it stands right -/
def posL (row : List Int) (n : Int) : List Nat := (List.range row.length).filter fun i => decide (row.getD i 0 = n)
def rgt (row : List Int) (n : Int) : Bool := match posL row n with
  | [a, b] => decide ((b : Int) - (a : Int) = n)
  | _ => false
/-- each number from 1 to half of the length -/
def good (row : List Int) : Bool := (List.range (row.length / 2)).all fun i => rgt row (1 + (i : Int))
theorem mem_pos {row : List Int} {n : Int} {i : Nat} : i ∈ posL row n ↔ i < row.length ∧ row.getD i 0 = n := by
  unfold posL
  rw [List.mem_filter, List.mem_range, decide_eq_true_eq]
theorem pos_sorted (row : List Int) (n : Int) : (posL row n).Pairwise (· < ·) := by
  unfold posL
  exact List.Pairwise.filter _ List.pairwise_lt_range
theorem rng_get (row : List Int) : (List.range row.length).map (fun i => row.getD i 0) = row := by
  refine List.ext_getElem? fun i => ?_
  rw [List.getElem?_map]
  by_cases h : i < row.length
  · rw [List.getElem?_eq_getElem (by rw [List.length_range]; exact h), List.getElem?_eq_getElem h, List.getElem_range]
    show some (row.getD i 0) = _
    rw [List.getD_eq_getElem?_getD]
    simp [h]
  · rw [List.getElem?_eq_none (by rw [List.length_range]; omega), List.getElem?_eq_none (by omega)]
    rfl
theorem count_pos (row : List Int) (n : Int) : row.count n = (posL row n).length := by
  have e : row.count n = ((List.range row.length).map (fun i => row.getD i 0)).count n := by rw [rng_get]
  rw [e, List.count_eq_countP, List.countP_map, List.countP_eq_length_filter]
  unfold posL
  congr 1
theorem pair_of {row : List Int} {n : Int} (h : (posL row n).length = 2) : ∃ a b : Nat, posL row n = [a, b] ∧ a < b := by
  have s := pos_sorted row n
  match e : posL row n, h with
  | [a, b], _ =>
    rw [e] at s
    exact ⟨a, b, rfl, (List.pairwise_cons.mp s).1 b List.mem_cons_self⟩
theorem rgt_no {row : List Int} {n : Int} (h : (posL row n).length ≠ 2) : rgt row n = false := by
  unfold rgt
  split
  · rename_i e
    rw [e] at h
    exact absurd rfl h
  · rfl
theorem rgt_two {row : List Int} {n : Int} {a b : Nat} (h : posL row n = [a, b]) : rgt row n = decide ((b : Int) - (a : Int) = n) := by
  unfold rgt
  rw [h]
/-- the second place by the first one -/
theorem rgt_at {row : List Int} {n : Int} {a b : Nat} (h : posL row n = [a, b]) (hab : a < b) (h1 : 1 ≤ n) : (decide ((a : Int) + n < row.length) && decide (row.getD ((a : Int) + n).toNat 0 = n)) = rgt row n := by
  rw [rgt_two h]
  have hb : b ∈ posL row n := by rw [h]; exact List.mem_cons_of_mem _ List.mem_cons_self
  obtain ⟨hb1, hb2⟩ := mem_pos.mp hb
  by_cases e : (b : Int) - (a : Int) = n
  · have e2 : ((a : Int) + n).toNat = b := by omega
    rw [e2, decide_eq_true (show (a : Int) + n < row.length by omega), decide_eq_true hb2, decide_eq_true e]
    rfl
  · rw [decide_eq_false e]
    by_cases z : (a : Int) + n < row.length
    · have nz : ¬ row.getD ((a : Int) + n).toNat 0 = n := fun y => by
        have m : ((a : Int) + n).toNat ∈ posL row n := mem_pos.mpr ⟨by omega, y⟩
        rw [h] at m
        rcases List.mem_cons.mp m with q | m
        · omega
        rcases List.mem_cons.mp m with q | m
        · omega
        · cases m
      rw [decide_eq_false nz, Bool.and_false]
    · rw [decide_eq_false z, Bool.false_and]
theorem pos_first {row : List Int} {n : Int} {a b : Nat} (h : posL row n = [a, b]) (hab : a < b) : row[a]? = some n ∧ ∀ m z, m < a → row[m]? = some z → z ≠ n := by
  have ha : a ∈ posL row n := by rw [h]; exact List.mem_cons_self
  obtain ⟨h1, h2⟩ := mem_pos.mp ha
  refine ⟨?_, fun m z hm hz e => ?_⟩
  · rw [List.getElem?_eq_getElem h1]
    rw [List.getD_eq_getElem?_getD, List.getElem?_eq_getElem h1] at h2
    exact congrArg some h2
  · have mm : m ∈ posL row n := mem_pos.mpr ⟨by omega, by rw [List.getD_eq_getElem?_getD, hz]; exact e⟩
    rw [h] at mm
    rcases List.mem_cons.mp mm with q | mm
    · omega
    rcases List.mem_cons.mp mm with q | mm
    · omega
    · cases mm
/-- the told row -/
def rowL (l : Int) : List Int := (List.range (2 * l).toNat).map fun (j : Nat) => num l j
theorem rowL_len (l : Int) : (rowL l).length = (2 * l).toNat := by
  unfold rowL
  rw [List.length_map, List.length_range]
theorem rowL_get {l : Int} {j : Nat} (h : j < (2 * l).toNat) : (rowL l).getD j 0 = num l j := by
  unfold rowL
  rw [List.getD_eq_getElem?_getD, List.getElem?_map, List.getElem?_eq_getElem (by rw [List.length_range]; exact h), List.getElem_range]
  rfl
theorem rowL_pos {l n : Int} (hl : Can l) (h1 : 1 ≤ n) (h2 : n ≤ l) : posL (rowL l) n = [(fst l n).toNat, (fst l n + n).toNat] := by
  have fr := fst_rng hl h1 h2
  have mem : ∀ i, i ∈ posL (rowL l) n ↔ i = (fst l n).toNat ∨ i = (fst l n + n).toNat := fun i => by
    rw [mem_pos, rowL_len]
    constructor
    · rintro ⟨a, b⟩
      rw [rowL_get a] at b
      have q := at_num hl (show 0 ≤ (i : Int) by omega) (show (i : Int) < 2 * l by omega)
      rw [b] at q
      rcases q.2 with z | z <;> omega
    · rintro (e | e)
      · have hi : i < (2 * l).toNat := by omega
        refine ⟨hi, ?_⟩
        rw [rowL_get hi]
        exact num_at hl ⟨⟨h1, h2⟩, .inl (by omega)⟩
      · have hi : i < (2 * l).toNat := by omega
        refine ⟨hi, ?_⟩
        rw [rowL_get hi]
        exact num_at hl ⟨⟨h1, h2⟩, .inr (by omega)⟩
  have s := pos_sorted (rowL l) n
  have nd : (posL (rowL l) n).Nodup := s.imp fun h => Nat.ne_of_lt h
  have ab : (fst l n).toNat < (fst l n + n).toNat := by omega
  generalize posL (rowL l) n = xs at *
  generalize (fst l n).toNat = a at *
  generalize (fst l n + n).toNat = b at *
  have nd2 : ([a, b] : List Nat).Nodup := by
    refine List.nodup_cons.mpr ⟨fun h => ?_, List.nodup_cons.mpr ⟨fun h => (nomatch h), List.nodup_nil⟩⟩
    rcases List.mem_cons.mp h with q | h
    · omega
    · cases h
  have p : xs.Perm [a, b] := (List.perm_ext_iff_of_nodup nd nd2).mpr fun i => by
    rw [mem i]
    simp
  have len := p.length_eq
  match xs, len with
  | [c, d], _ =>
    have cd := (List.pairwise_cons.mp s).1 d List.mem_cons_self
    have hc := (mem c).mp List.mem_cons_self
    have hd := (mem d).mp (List.mem_cons_of_mem _ List.mem_cons_self)
    have e1 : c = a := by omega
    have e2 : d = b := by omega
    rw [e1, e2]
theorem rowL_rgt {l n : Int} (hl : Can l) (h1 : 1 ≤ n) (h2 : n ≤ l) : rgt (rowL l) n = true := by
  have fr := fst_rng hl h1 h2
  rw [rgt_two (rowL_pos hl h1 h2)]
  refine decide_eq_true ?_
  omega
theorem good_iff {row : List Int} : good row = true ↔ ∀ n : Int, 1 ≤ n → n ≤ ((row.length / 2 : Nat) : Int) → rgt row n = true := by
  unfold good
  rw [List.all_eq_true]
  constructor
  · intro h n h1 h2
    have := h (n - 1).toNat (List.mem_range.mpr (by omega))
    rw [show 1 + (((n - 1).toNat : Nat) : Int) = n by omega] at this
    exact this
  · intro h i hi
    exact h _ (by omega) (by have := List.mem_range.mp hi; omega)
theorem rowL_good {l : Int} (hl : Can l) : good (rowL l) = true := good_iff.mpr fun n h1 h2 => rowL_rgt hl h1 (by rw [rowL_len] at h2; omega)
/-! from the end on -/
theorem pos_two {row : List Int} {n : Int} {a b : Nat} (ab : a < b) (mem : ∀ i, i ∈ posL row n ↔ i = a ∨ i = b) : posL row n = [a, b] := by
  have s := pos_sorted row n
  have nd : (posL row n).Nodup := s.imp fun h => Nat.ne_of_lt h
  generalize posL row n = xs at *
  have nd2 : ([a, b] : List Nat).Nodup := by
    refine List.nodup_cons.mpr ⟨fun h => ?_, List.nodup_cons.mpr ⟨fun h => (nomatch h), List.nodup_nil⟩⟩
    rcases List.mem_cons.mp h with q | h
    · omega
    · cases h
  have p : xs.Perm [a, b] := (List.perm_ext_iff_of_nodup nd nd2).mpr fun i => by
    rw [mem i]
    simp
  have len := p.length_eq
  match xs, len with
  | [c, d], _ =>
    have cd := (List.pairwise_cons.mp s).1 d List.mem_cons_self
    have hc := (mem c).mp List.mem_cons_self
    have hd := (mem d).mp (List.mem_cons_of_mem _ List.mem_cons_self)
    have e1 : c = a := by omega
    have e2 : d = b := by omega
    rw [e1, e2]
theorem rev_get {row : List Int} {i : Nat} (h : i < row.length) : row.reverse.getD i 0 = row.getD (row.length - 1 - i) 0 := by
  rw [List.getD_eq_getElem?_getD, List.getD_eq_getElem?_getD, List.getElem?_reverse h]
theorem rgt_rev_of {row : List Int} {n : Int} (h : rgt row n = true) : rgt row.reverse n = true := by
  by_cases hc : (posL row n).length = 2
  · obtain ⟨a, b, hp, hab⟩ := pair_of hc
    rw [rgt_two hp] at h
    have h := of_decide_eq_true h
    have hb : b ∈ posL row n := by rw [hp]; exact List.mem_cons_of_mem _ List.mem_cons_self
    have lb := (mem_pos.mp hb).1
    have q : posL row.reverse n = [row.length - 1 - b, row.length - 1 - a] := by
      refine pos_two (by omega) fun i => ?_
      rw [mem_pos, List.length_reverse]
      constructor
      · rintro ⟨h1, h2⟩
        rw [rev_get h1] at h2
        have m : row.length - 1 - i ∈ posL row n := mem_pos.mpr ⟨by omega, h2⟩
        rw [hp] at m
        rcases List.mem_cons.mp m with z | m
        · exact .inr (by omega)
        rcases List.mem_cons.mp m with z | m
        · exact .inl (by omega)
        · cases m
      · intro z
        have hi : i < row.length := by omega
        refine ⟨hi, ?_⟩
        rw [rev_get hi]
        have m : row.length - 1 - i ∈ posL row n := by
          rw [hp]
          rcases z with z | z
          · exact List.mem_cons_of_mem _ (List.mem_cons.mpr (.inl (by omega)))
          · exact List.mem_cons.mpr (.inl (by omega))
        exact (mem_pos.mp m).2
    rw [rgt_two q]
    refine decide_eq_true ?_
    omega
  · rw [rgt_no hc] at h
    cases h
theorem rgt_rev (row : List Int) (n : Int) : rgt row.reverse n = rgt row n := by
  cases h : rgt row n with
  | true => exact rgt_rev_of h
  | false =>
    cases h2 : rgt row.reverse n with
    | false => rfl
    | true =>
      have := rgt_rev_of h2
      rw [List.reverse_reverse, h] at this
      cases this
theorem good_rev (row : List Int) : good row.reverse = good row := by
  unfold good
  rw [List.length_reverse]
  congr 1
  funext i
  exact rgt_rev row _
/-- the first number that doesn't stand right -/
def offN (row : List Int) : Int := 1 + (((List.range (row.length / 2)).findIdx fun (i : Nat) => !rgt row (1 + (i : Int)) : Nat) : Int)
theorem offN_at {row : List Int} {i : Nat} (hi : i < row.length / 2) (h : rgt row (1 + (i : Int)) = false) (hb : ∀ j : Nat, j < i → rgt row (1 + (j : Int)) = true) : offN row = 1 + (i : Int) ∧ good row = false := by
  constructor
  · unfold offN
    have e : (List.range (row.length / 2)).findIdx (fun (i : Nat) => !rgt row (1 + (i : Int))) = i := by
      rw [List.findIdx_eq (by rw [List.length_range]; exact hi)]
      refine ⟨by rw [List.getElem_range, h]; rfl, fun j hj => ?_⟩
      rw [List.getElem_range, hb j hj]
      rfl
    rw [e]
  · unfold good
    exact List.all_eq_false.mpr ⟨i, List.mem_range.mpr hi, by rw [h]; decide⟩
theorem offN_bad {row : List Int} (h : good row = false) : 1 ≤ offN row ∧ offN row ≤ ((row.length / 2 : Nat) : Int) ∧ rgt row (offN row) = false := by
  unfold good at h
  obtain ⟨i, hi, hr⟩ := List.all_eq_false.mp h
  have lt : (List.range (row.length / 2)).findIdx (fun (i : Nat) => !rgt row (1 + (i : Int))) < (List.range (row.length / 2)).length := List.findIdx_lt_length_of_exists ⟨i, hi, by simpa using hr⟩
  have g := List.findIdx_getElem (w := lt)
  rw [List.getElem_range] at g
  rw [List.length_range] at lt
  unfold offN
  exact ⟨by omega, by omega, by simpa using g⟩
end PA

set_option Elab.async false
set_option linter.all false
set_option maxRecDepth 100000
set_option maxHeartbeats 4000000
namespace PA
open PySem PySem.Spec PyProof.Rows L2 Evl
/-! ### isinstance of the error that a suite holds, of whatever own class -/
def rIsG (K : PySem.W.Frag) (cls : Value) (d : Option Addr) (a : Addr) : List V → Hp → VK → Prop := fun xs H Q => ∃ D : Addr, cls = .ref D ∧ d = none ∧ ExcC K D ∧ rIsE K D a xs H Q
theorem call_isG {X : Cx} {a : Addr} {cls : Value} {d : Option Addr} {oe : Obj} {pn : List (Addr × Obj)} (hz : Zc cls d oe) (hf : ∃ vs, oe.data = .fields vs) : CallR (X.suite a ((a, oe) :: pn)) (.builtin "isinstance") (rIsG X.K cls d a) := by
  intro pins s σ H xs us Q I r h
  obtain ⟨D, rfl, rfl, C, h⟩ := h
  exact call_isE C hz hf pins s σ H xs us Q I r h
section
variable {K : PySem.W.Frag} {σ : L2.St} {H H' : Hp} {ta tb te tx tc : TE} {t u : TT} {x y z v : V} {D : Ends} {tu tw tz : TS} {g : TG} {r r' : R2} {P : V → Hp → Prop}
theorem ev_isG {C a : Addr} {c : V} {cv : Value} {b : Bool} (hC : ExcC K C) (ha : Ev ta σ H (.ref a)) (hb : Ev tb σ H c) (hc : ∀ u, RelV c u → u = cv) (hk : PySem.W.kitOne K (.ref C) cv = some b) : Ev (tCB (rIsG K (.ref C) none a) (tCons ta (tCons tb tNil))) σ H (.bl b) :=
  ev_cb (ea_cons ha (ea_cons hb ea_nil)) fun H1 _ _ q => ⟨C, rfl, rfl, hC, c, cv, b, rfl, hc, hk, q H1 (Ex.refl H1)⟩
/-! ### a call that raises -/
theorem x_call {sp : Sp} {dvs vs : List V} {E : XK} {ta : TA} {Q : VK} (h : EvA ta σ H vs) (hs : ∀ H1, Ex H H1 → sp (vs ++ dvs) H1 Q E) : tCall sp dvs E ta σ H Q := h H (Ex.refl H) _ fun H1 e => hs H1 e
theorem x_callS {sp : Sp} {vs : List V} {E : L2.St → XK} {ta : TA} {Q : VK} (h : EvA ta σ H vs) (hs : ∀ H1, Ex H H1 → sp vs H1 Q (E σ)) : tCallS sp E ta σ H Q := h H (Ex.refl H) _ fun H1 e => hs H1 e
theorem x_callS1 {sp : Sp} {E : L2.St → XK} {Q : VK} (h : EvQ ta σ H P) (hs : ∀ v H1, Ex H H1 → P v H1 → sp [v] H1 Q (E σ)) : tCallS sp E (tCons ta tNil) σ H Q := h H (Ex.refl H) _ fun v H1 e hv => hs v H1 e hv
theorem x_callS2 {sp : Sp} {E : L2.St → XK} {Q : VK} (ha : Ev ta σ H x) (h : EvQ tb σ H P) (hs : ∀ v H1, Ex H H1 → P v H1 → sp [x, v] H1 Q (E σ)) : tCallS sp E (tCons ta (tCons tb tNil)) σ H Q := ha H (Ex.refl H) _ fun H1 e => h H1 e _ fun v H2 e2 hv => hs v H2 (e.trans e2) hv
theorem x_if {b : Bool} {Q : VK} (h : EvT t σ H b) (h1 : b = true → ∀ H1, Ex H H1 → ta σ H1 Q) (h2 : b = false → ∀ H1, Ex H H1 → tb σ H1 Q) : tIf t ta tb σ H Q := h H (Ex.refl H) _ fun H1 e => by
  cases b with
  | true => exact h1 rfl H1 e
  | false => exact h2 rfl H1 e
/-! ### displays of values of many kinds: of the i-th one P i holds -/
def EvAI (ta : TA) (σ : L2.St) (H : Hp) (P : Nat → V → Hp → Prop) (n : Nat) : Prop := ∀ H1, Ex H H1 → ∀ Q : List V → Hp → Prop, (∀ vs H2, Ex H1 H2 → vs.length = n → (∀ i v, vs[i]? = some v → P i v H2) → Q vs H2) → ta σ H1 Q
theorem eai_nil {P : Nat → V → Hp → Prop} : EvAI tNil σ H P 0 := fun H1 _ _ q => q [] H1 (Ex.refl H1) rfl fun _ _ h => nomatch h
theorem eai_cons {P : Nat → V → Hp → Prop} {tr : TA} {n : Nat} (st : Stab (P 0)) (h : EvQ ta σ H (P 0)) (hr : EvAI tr σ H (fun i => P (i + 1)) n) : EvAI (tCons ta tr) σ H P (n + 1) := fun H1 e _ q =>
  h H1 e _ fun x H2 e2 hx => hr H2 (e.trans e2) _ fun vs H3 e3 hl hv => q (x :: vs) H3 (e2.trans e3) (by rw [List.length_cons, hl]) fun i v hi => by
    cases i with
    | zero =>
      obtain rfl : x = v := Option.some.inj hi
      exact st _ _ _ e3 hx
    | succ i => exact hv i v hi
/-- a new list, of the i-th item of which P i holds -/
def EvLI (te : TE) (σ : L2.St) (H : Hp) (P : Nat → V → Hp → Prop) (n : Nat) : Prop := ∀ H1, Ex H H1 → ∀ Q : VK, (∀ vs p H2, H1 p = none → Ex H1 H2 → H2 p = some (.lst vs) → vs.length = n → (∀ i v, vs[i]? = some v → P i v H2) → Q (.ref p) H2) → te σ H1 Q
theorem eli_lst {P : Nat → V → Hp → Prop} {ta : TA} {n : Nat} (st : ∀ i, Stab (P i)) (h : EvAI ta σ H P n) (hn : n ≤ 100000) : EvLI (tLst ta) σ H P n := fun H1 e Q q =>
  h H1 e _ fun vs H2 e2 hl hv => ⟨sz_of (by omega), fun p hp => q vs p _ (fresh_back e2 hp) (e2.trans (Ex.new hp)) upd_same hl fun i v hi => st i _ _ _ (Ex.new hp) (hv i v hi)⟩
theorem q_asgLI {P : Nat → V → Hp → Prop} {n i : Nat} (h : EvLI te σ H P n) (k : ∀ vs p H1, H p = none → Ex H H1 → H1 p = some (.lst vs) → vs.length = n → (∀ i v, vs[i]? = some v → P i v H1) → tz D (σ.set i (some (.ref p))) H1) : tSeq (tAsg te (gName i)) tz D σ H := h H (Ex.refl H) _ k
theorem eq_lst {P' : V → Hp → Prop} {xs : List V} (h : EvL te σ H xs) (hp : ∀ p H1, H1 p = some (.lst xs) → P' (.ref p) H1) : EvQ te σ H P' := fun H1 e _ q => h H1 e _ fun p H2 _ e2 h2 => q _ H2 e2 (hp p H2 h2)
theorem eq_tup {P' : V → Hp → Prop} {xs : List V} (h : EvU te σ H xs) (hp : ∀ p H1, H1 p = some (.tup xs) → P' (.ref p) H1) : EvQ te σ H P' := fun H1 e _ q => h H1 e _ fun p H2 _ e2 h2 => q _ H2 e2 (hp p H2 h2)
theorem eq_dnew {P' : V → Hp → Prop} (hp : ∀ p H1, H1 p = some (.dK []) → P' (.ref p) H1) : EvQ tDNewK σ H P' := fun H1 e _ q p hn => q _ _ (Ex.new hn) (hp p _ upd_same)
/-- an item of a new list -/
theorem eq_ix {P : Nat → V → Hp → Prop} {P' : V → Hp → Prop} {n : Nat} {j : Int} (st : ∀ i, Stab (P i)) (h : EvLI te σ H P n) (hj : ∀ H1, Ev tb σ H1 (.int j)) (h0 : 0 ≤ j) (h1 : j < n) (hp : ∀ v H1, P j.toNat v H1 → P' v H1) : EvQ (tOp (rIxL K) te tb) σ H P' := fun H1 e Q q =>
  h H1 e _ fun vs p H2 _ e2 h2 hl hv => hj H2 H2 (Ex.refl _) _ fun H3 e3 => by
    have hlt : j.toNat < vs.length := by omega
    refine ⟨p, vs, j, vs[j.toNat], rfl, rfl, sq_of (e3 _ _ h2), at_of (j := j.toNat) (by omega) (List.getElem?_eq_getElem hlt), q _ H3 (e2.trans e3) (hp _ _ (st _ _ _ _ e3 (hv _ _ (List.getElem?_eq_getElem hlt))))⟩
/-- an item of a list in a slot -/
theorem eq_ixV {P' : V → Hp → Prop} {a : Addr} {vs : List V} {j : Int} (ha : Ev te σ H (.ref a)) (hs : SqL K H a vs) (hj : ∀ H1, Ev tb σ H1 (.int j)) (h0 : 0 ≤ j) (h1 : j < vs.length) (hp : ∀ v, vs[j.toNat]? = some v → ∀ H1, Ex H H1 → P' v H1) : EvQ (tOp (rIxL K) te tb) σ H P' := fun H1 e Q q =>
  ha H1 e _ fun H2 e2 => hj H2 H2 (Ex.refl _) _ fun H3 e3 => by
    have hlt : j.toNat < vs.length := by omega
    have e13 := (e.trans e2).trans e3
    exact ⟨a, vs, j, vs[j.toNat], rfl, rfl, ex_l e13 hs, at_of (j := j.toNat) (by omega) (List.getElem?_eq_getElem hlt), q _ H3 (e2.trans e3) (hp _ (List.getElem?_eq_getElem hlt) H3 e13)⟩
/-- a list, new or not, of the i-th item of which P i holds -/
def EvLJ (te : TE) (σ : L2.St) (H : Hp) (P : Nat → V → Hp → Prop) (n : Nat) : Prop := ∀ H1, Ex H H1 → ∀ Q : VK, (∀ vs p H2, Ex H1 H2 → H2 p = some (.lst vs) → vs.length = n → (∀ i v, vs[i]? = some v → P i v H2) → Q (.ref p) H2) → te σ H1 Q
theorem elj_new {P : Nat → V → Hp → Prop} {n : Nat} (h : EvLI te σ H P n) : EvLJ te σ H P n := fun H1 e Q q => h H1 e Q fun vs p H2 _ e2 h2 hl hv => q vs p H2 e2 h2 hl hv
theorem elj_old {P : Nat → V → Hp → Prop} {a : Addr} {vs : List V} (st : ∀ i, Stab (P i)) (ha : Ev te σ H (.ref a)) (hs : H a = some (.lst vs)) (hv : ∀ i v, vs[i]? = some v → P i v H) : EvLJ te σ H P vs.length := fun H1 e Q q =>
  ha H1 e _ fun H2 e2 => q vs a H2 e2 ((e.trans e2) _ _ hs) rfl fun i v hi => st _ _ _ _ (e.trans e2) (hv i v hi)
theorem eli_cat {P P' P2 : Nat → V → Hp → Prop} {m n : Nat} (st : ∀ i, Stab (P i)) (st' : ∀ i, Stab (P' i)) (ha : EvLJ ta σ H P m) (hb : EvLJ tb σ H P' n) (hn : m + n ≤ 100000) (h1 : ∀ i v H1, i < m → P i v H1 → P2 i v H1) (h2 : ∀ i v H1, P' i v H1 → P2 (m + i) v H1) : EvLI (tOp rCat ta tb) σ H P2 (m + n) := fun H1 e Q q =>
  ha H1 e _ fun vs p1 H2 e2 hp1 hl1 hv => hb H2 (e.trans e2) _ fun ws p H3 e3 h3 hl hw => ⟨p1, p, vs, ws, rfl, rfl, e3 _ _ hp1, h3, sz_of (by omega), fun r hr =>
    q (vs ++ ws) r _ (fresh_back (e2.trans e3) hr) ((e2.trans e3).trans (Ex.new hr)) upd_same (by rw [List.length_append, hl, hl1]) fun i v hi => by
      by_cases hlt : i < vs.length
      · rw [List.getElem?_append_left hlt] at hi
        exact h1 _ _ _ (by omega) (st _ _ _ _ (e3.trans (Ex.new hr)) (hv i v hi))
      · rw [List.getElem?_append_right (by omega)] at hi
        have z : P2 (m + (i - vs.length)) v (upd H3 r (.lst (vs ++ ws))) := h2 _ _ _ (st' _ _ _ _ (Ex.new hr) (hw _ _ hi))
        rwa [show m + (i - vs.length) = i by omega] at z⟩
/-- the first k items, the items from k on -/
theorem eli_take {P : Nat → V → Hp → Prop} {vs : List V} {k : Nat} {tlo thi : TO} (st : ∀ i, Stab (P i)) (h : EvL (tSl (rSlL K) te tlo thi) σ H (vs.take k)) (hk : k ≤ vs.length) (hv : ∀ i v, vs[i]? = some v → P i v H) : EvLI (tSl (rSlL K) te tlo thi) σ H P k := fun H1 e Q q =>
  h H1 e _ fun p H2 hp e2 h2 => q _ p H2 hp e2 h2 (by rw [List.length_take]; omega) fun i v hi => by
    rw [List.getElem?_take] at hi
    split at hi
    · exact st _ _ _ _ (e.trans e2) (hv i v hi)
    · cases hi
theorem eli_drop {P : Nat → V → Hp → Prop} {vs : List V} {k : Nat} {tlo thi : TO} (st : ∀ i, Stab (P i)) (h : EvL (tSl (rSlL K) te tlo thi) σ H (vs.drop k)) (hk : k ≤ vs.length) (hv : ∀ i v, vs[i]? = some v → P i v H) : EvLI (tSl (rSlL K) te tlo thi) σ H (fun i => P (k + i)) (vs.length - k) := fun H1 e Q q =>
  h H1 e _ fun p H2 hp e2 h2 => q _ p H2 hp e2 h2 (by rw [List.length_drop]) fun i v hi => by
    rw [List.getElem?_drop] at hi
    exact st _ _ _ _ (e.trans e2) (hv _ v hi)
/-- a[j] = what has P -/
theorem q_setQ {l : Addr} {xs : List V} {j : Nat} {P : V → Hp → Prop} (hl : H l = some (.lst xs)) (h : EvQ te σ H P) (ho : ∀ H1, Ex H H1 → Ev ta σ H1 (.ref l)) (hi : ∀ H1, Ex H H1 → Ev tb σ H1 (.int (j : Int))) (hj : j < xs.length) (k : ∀ v H0 H1, Ex H H0 → Ex H0 H1 → P v H0 → tz D σ (upd H1 l (.lst (xs.set j v)))) :
    tSeq (tAsg te (gSub ta tb rSetL)) tz D σ H := h H (Ex.refl H) _ fun v H1 e1 hv => ho H1 e1 _ (Ex.refl _) _ fun H2 e2 => hi H2 (e1.trans e2) _ (Ex.refl _) _ fun H3 e3 =>
  ⟨l, xs, (j : Int), j, rfl, rfl, ((e1.trans e2).trans e3) l _ hl, ixN_nat hj, k v H1 H3 e1 (e2.trans e3) hv⟩
theorem ei_if {b : Bool} {C : Addr} {fs : List (Str × V)} (h : EvT t σ H b) (h1 : b = true → EvI ta σ H C fs) (h2 : b = false → EvI tb σ H C fs) : EvI (tIf t ta tb) σ H C fs := fun H1 e Q q => h H1 e _ fun H2 e2 => by
  have k : ∀ te, EvI te σ H C fs → te σ H2 Q := fun te ht => ht H2 (e.trans e2) _ fun p dx H3 hp e3 h3 => q p dx H3 (fresh_back e2 hp) (e2.trans e3) h3
  cases b with
  | true => exact k _ (h1 rfl)
  | false => exact k _ (h2 rfl)
end
/-! ### lists of truths compared -/
theorem eqvAll_bools : ∀ ns ms : List Bool, PyData.eqvAll (ns.map PyData.bool) (ms.map PyData.bool) = decide (ns = ms)
  | [], [] => by simp [PyData.eqvAll]
  | [], _ :: _ => by simp [PyData.eqvAll]
  | _ :: _, [] => by simp [PyData.eqvAll]
  | n :: ns, m :: ms => by
    rw [List.map_cons, List.map_cons]
    show (PyData.eqv (.bool n) (.bool m) && PyData.eqvAll _ _) = _
    rw [eqvAll_bools ns ms]
    cases n <;> cases m <;> simp [PyData.eqv]
theorem canAll_bools : ∀ ns : List Bool, PyData.canLayAll0 (ns.map PyData.bool) = true
  | [] => rfl
  | _ :: r => by
    rw [List.map_cons]
    show (PyData.canLay0 (.bool _) && PyData.canLayAll0 _) = true
    rw [canAll_bools r]
    rfl
theorem depAll_bools : ∀ ns : List Bool, PyData.depthAll (ns.map PyData.bool) = 0
  | [] => rfl
  | _ :: r => by
    rw [List.map_cons]
    show max (PyData.depth (.bool _)) (PyData.depthAll _) = 0
    rw [depAll_bools r]
    rfl
theorem shp_bools (ns : List Bool) : SeqAt.shaped (.list (ns.map PyData.bool)) = true := by
  show (PyData.canLayAll0 _ && decide (PyData.depthAll _ + 1 ≤ 64)) = true
  rw [canAll_bools, depAll_bools]
  rfl
theorem dpAll_bools {K : PySem.W.Frag} {H : Hp} : ∀ ns : List Bool, DpAll K H (ns.map V.bl) (ns.map PyData.bool)
  | [] => .nil
  | n :: r => .cons (.bl n) (dpAll_bools r)
theorem rv_neB {K : PySem.W.Frag} {H : Hp} {a b : Addr} {ns ms : List Bool} (ha : SqL K H a (ns.map V.bl)) (hb : SqL K H b (ms.map V.bl)) : RV (rNeD K) (.ref a) (.ref b) H (.bl (!decide (ns = ms))) := fun H1 e Q q =>
  ⟨_, _, .lst (ex_l e ha) (dpAll_bools ns), .lst (ex_l e hb) (dpAll_bools ms), shp_bools _, shp_bools _, by
    rw [show PyData.eqv (.list (ns.map PyData.bool)) (.list (ms.map PyData.bool)) = decide (ns = ms) from eqvAll_bools ns ms]
    exact q H1 (Ex.refl H1)⟩
end PA

set_option Elab.async false
set_option linter.all false
set_option maxRecDepth 100000
set_option maxHeartbeats 4000000
namespace PA
open PySem PySem.Spec PyProof.Rows L2 Evl
/-! ### errors whose context is None: the words of HandS.WordsExc for L2N -/
theorem passLN {X : Cx} : Passes (L2N.CX X.prog X.w) X E0 := fun _ _ _ _ _ _ _ h => by
  obtain ⟨_, _, _, _, _, _, _, _, _, _, _, _, z⟩ := h
  exact z.elim
theorem takes0N {X : Cx} : L2N.Takes X (fun _ _ _ _ => False) := fun _ _ x => by
  obtain ⟨_, _, _, _, _, _, _, _, _, _, _, _, _, _, _, _, z⟩ := x
  exact z.elim
theorem okXN {P : Program} {w : World} {K : PySem.W.Frag} {mg : Str → Option Value} {base : Heap} {x qual : Str} {st : Stmt} {f : Addr} {fd : FuncData} {N ps : List Str} {k : Nat} {sp : Sp} (F : Fun K x qual st f fd) (S : FnScope N ps (defScope st)) (len : ∀ vs H Q E, sp vs H Q E → vs.length = ps.length)
    (hbody : ∀ (cdv : Value) (A : Around) (outer : List Env) (s : Shared) (H : Hp) (vs : List V) (Q : VK) (E : XK), Room k (A.deeper (envOfC qual (defScope st) s.heap.objs.size f cdv)) → sp vs H Q E →
      ∃ t, PSs (cxOf (L2N.CX P w) P w K mg base N qual (defScope st) f cdv A outer s H E) (defBody st) t ∧ t { nx := fun _ H' => Q .non H', rt := Q } (start N vs) H) : FnOk P w K mg base (L2N.CX P w) (k + 1) f fd ps sp := by
  obtain ⟨oc, od, kV, doc, pm, an, cdv, ct, osl, rfl, lk, hcd⟩ := F.ex
  exact fn_of lk hcd S len fun A outer s H vs Q E hr hsp => hbody cdv A outer s H vs Q E hr hsp
/-! ### the end of a list, while an error is handled -/
section
variable {prog : Program} {w : World} {A : Around} {E : Value → Shared → Prop} {s : Shared}
theorem pyNext_list_end_hot {it l x1 : Addr} {i : Nat} {items : Array Value} {Q : Option Value → Shared → Prop} (hot : HotX.HotAt A x1 s.heap) (hx1 : x1 ≠ it) (hit : s.heap.IsListIter it l i) (hl : s.heap.IsList l items) (hx : items[i]? = none)
    (hQ : ∀ h', (∀ b o, b ≠ it → s.heap.get? b = some o → h'.get? b = some o) → Q none { s with heap := h' }) : wpAny (model prog w) A (pyNext (.ref it)) Q E s := by
  obtain ⟨o, ho, hc, hd⟩ := id hit
  obtain ⟨ol, hol, _, nl, hdl⟩ := hl
  obtain ⟨hh, o1, vs1, h1, d1, c1⟩ := hot
  unfold pyNext
  refine wpAny_bind (wpAny_attempt (wpAny_callSpecial?_slot (name := Str.ofString "__next__") hit.typeIs slot_listiter_next
    (wpAny_call_entry slot_listiter_next hit.typeIs entry_listiter_next ?_ (args_listiter_next _))))
  show wpAny _ _ (field (.ref it) 0 >>= _) _ _ s
  refine wpAny_bind (wpAny_field ho hd (x := .ref l) rfl ?_)
  show wpAny _ _ (if (Value.ref l == Value.none) = true then _ else _) _ _ s
  rw [if_neg (show ¬ ((Value.ref l == Value.none) = true) from Bool.false_ne_true)]
  show wpAny _ _ (field (.ref it) 1 >>= _) _ _ s
  refine wpAny_bind (wpAny_field ho hd (x := .int i 0) rfl ?_)
  show wpAny _ _ (seqItems? (.ref l) >>= _) _ _ s
  refine wpAny_bind (wpAny_seqItems hol hdl ?_)
  simp only [Int.toNat_natCast, hx]
  refine wpAny_bind (wpAny_rule (wpAny_bind (wpAny_setField ho hd (by simp) ?_)))
  show wpAny _ _ (newExc (.type "StopIteration") [] >>= _) _ _ _
  refine wpAny_bind ?_
  simp only [newExc, newTuple]
  refine wpAny_bind (wpAny_newObj_type ?_ (by size_fits))
  refine wpAny_bind (m := firstArgMember _ _) (wpAny_of_eq (a := Value.none) (by first | rfl | (simp only [firstArgMember]; rfl)) ?_)
  refine wpAny_newObj_type ?_ (by size_fits)
  have k1 : ∀ b ob, b ≠ it → s.heap.get? b = some ob → (s.heap.update it (Obj.mapFields (·.setIfInBounds 0 Value.none))).get? b = some ob := fun b ob hb e => (Heap.get?_update_other _ _ (Ne.symm hb)).trans e
  have h1' := k1 _ _ hx1 h1
  refine HotX.raiseNew_hot ⟨hh, o1, vs1, Heap.get?_push_of_some _ (Heap.get?_push_of_some _ h1'), d1, c1⟩ (Nat.ne_of_lt (Heap.lt_size (Heap.get?_push_of_some _ h1'))) (Heap.get?_push_size _ rfl) rfl (by first | (simp; done) | (simp; omega) | (simp only [Array.size_append]; simp; omega)) ?_
  refine wpAny_bind (wpAny_isInstance (T := "StopIteration") (b := true) ⟨_, Heap.get?_update_self _ (Heap.get?_push_size _ rfl) rfl, rfl⟩ isSubtype_stop ?_)
  refine wpAny_pure (hQ _ fun b ob hb e => ?_)
  have e' := k1 b ob hb e
  rw [Heap.get?_update_other _ _ (Nat.ne_of_gt (Heap.lt_size (Heap.get?_push_of_some _ e')))]
  exact Heap.get?_push_of_some _ (Heap.get?_push_of_some _ e')
theorem walks_hot (I ax x1 : Addr) (hh : A.handled = some (.ref x1)) (o1 : Obj) (v1 : Array Value) (hd : o1.data = .fields v1) (hc : v1[2]? = some .none) (hne : ax ≠ I) (hx : x1 ≠ I) (items : Array Value) :
    Walks prog w A I [I, ax, x1] [I] items.size (fun i v => items[i]? = some v) (fun i h => h.IsListIter I ax i ∧ h.IsList ax items ∧ h.get? x1 = some o1) where
  sub := fun b hb => by simp at hb; simp [hb]
  frame := fun _ _ _ st hk => ⟨st.1.at fun o e => hk I (by simp) o e, st.2.1.at fun o e => hk ax (by simp) o e, hk x1 (by simp) _ st.2.2⟩
  item := fun i s Q E hi st hQ => by
    refine wpAny_pyNext_list_item st.1 st.2.1 (x := items[i]) (by simp [hi]) fun h' hit' hs' => ?_
    exact hQ _ h' s.toks (by simp [hi]) ⟨hit', st.2.1.extBut hs'.extBut hne, hs'.extBut _ _ hx st.2.2⟩ fun b o hb e => hs'.extBut b o (fun h => hb (by simp [h])) e
  done := fun s Q E st hQ => pyNext_list_end_hot ⟨hh, o1, v1, st.2.2, hd, hc⟩ hx st.1 st.2.1 (by simp) fun h' he' => hQ h' s.toks fun b o hb e => he' b o (fun h => hb (by simp [h])) e
  self := fun _ _ _ _ st hQ => wpAny_pyIter_listiter st.1 hQ
end
/-- any(a list of truths), in a suite -/
theorem cr_anyH {X : Cx} {a : Addr} {cls : Value} {d : Option Addr} {oe : Obj} {pn : List (Addr × Obj)} (hz : L2N.Zn cls d oe) (hf : ∃ vs, oe.data = .fields vs) : CallR (X.suite a ((a, oe) :: pn)) (.builtin "any") (rAny X.K) := by
  intro pins s σ H vs us Q I r h
  obtain ⟨l, bs, rfl, hs, q⟩ := h
  obtain ⟨its, rv, hl, _⟩ := I.list hs
  rw [Vals.ref1 r]
  have hb := rv.bls
  obtain ⟨v1, hv1⟩ := hf
  have hget := (I.pin (a, oe) (List.mem_append.mpr (.inl List.mem_cons_self))).1
  refine call_any_walk (iter_any hl.isList fun s₂ e2 st hne => ?_)
  subst e2
  refine ⟨_, _, _, _, _, _, _, rfl, walks_hot (A := (X.suite a ((a, oe) :: pn)).A.in1) _ l a rfl oe v1 hv1 (hz.2.2 _ hv1) hne (Nat.ne_of_lt (Heap.lt_size hget)) its.toArray, ⟨st.1, st.2, Heap.get?_push_of_some _ hget⟩, truth_bools hb, fun h' tk hk => ?_⟩
  refine ⟨.bl _, H, I.kept fun b o eo => hk b o (fun hmem => ?_) (Heap.get?_push_of_some _ eo), ?_, q⟩
  · rcases List.mem_cons.mp hmem with e1 | hmem
    · exact absurd (e1 ▸ Heap.lt_size eo) (Nat.lt_irrefl _)
    · cases hmem
  · show Value.bool _ = Value.bool _
    rw [← L2.any_range, hb, List.size_toArray, List.length_map]
end PA

set_option Elab.async false
set_option linter.all false
set_option maxRecDepth 100000
set_option maxHeartbeats 4000000
namespace PA
open PySem PySem.Spec PyProof.Rows L2 Evl LamX NdefX
/-! ### a lambda as a value: its words, what it captured, its code object -/
structure LF where
  qual : Str
  params : Arguments
  body : Expr
  scope : Scope
  cl : List (Str × Addr)
  c : Addr
abbrev LF.nf (F : LF) : NF := ⟨"<lambda>", F.qual, F.params, [], F.scope, F.cl, F.c⟩
abbrev LF.fd (F : LF) (pm ctv : Value) : FuncData := PySem.W.kla_fn "<lambda>" F.qual F.params F.body F.scope F.cl pm (.ref F.c) ctv
/-- the object at f is the lambda F -/
def LamO (f : Addr) (F : LF) : HO := .ext fun h => ∃ (od : Option Addr) (sl : Array (Option Value)) (pm ctv : Value), h.get? f = some (⟨.type "function", od, .func (F.fd pm ctv), sl⟩ : Obj)
theorem lamO_at {P : Program} {w : World} {H : Hp} {h : Heap} {f : Addr} {F : LF} (hok : HOk P w H h) (e : H f = some (LamO f F)) : ∃ (od : Option Addr) (sl : Array (Option Value)) (pm ctv : Value), h.get? f = some (⟨.type "function", od, .func (F.fd pm ctv), sl⟩ : Obj) := by
  obtain ⟨z, _, _⟩ := hok f _ e
  exact z
/-- all but what stands at P is kept -/
def ExB (P : Addr) (H H' : Hp) : Prop := ∀ b o, b ≠ P → H b = some o → H' b = some o
theorem ExB.refl (P : Addr) (H : Hp) : ExB P H H := fun _ _ _ h => h
theorem ExB.trans {P : Addr} {H H1 H2 : Hp} (a : ExB P H H1) (b : ExB P H1 H2) : ExB P H H2 := fun c o n h => b c o n (a c o n h)
theorem ExB.of {P : Addr} {H H' : Hp} (e : Ex H H') : ExB P H H' := fun b o _ h => e b o h
theorem tabS_ex {H H' : Hp} {P : Addr} {q : Str} (t : TabS H P q) (e : Ex H H') : TabS H' P q := t.ext e
theorem exB_ne {P : Addr} {H H' : Hp} {a : Addr} {o : HO} {q : Str} (e : ExB P H H') (t : TabS H P q) (h : H a = some o) (n : ∀ ps, o ≠ .tbl ps) : H' a = some o := e a o (fun z => by
  obtain ⟨ps, hP, _⟩ := t
  rw [z, hP] at h
  exact n ps (Option.some.inj h).symm) h
theorem exB_fresh {P : Addr} {H H' : Hp} {q : Str} (e : ExB P H H') (t : TabS H' P q) {a : Addr} (h : H' a = none) : H a = none := by
  cases z : H a with
  | none => rfl
  | some o =>
    by_cases ne : a = P
    · obtain ⟨ps, hP, _⟩ := t
      rw [ne, hP] at h
      cases h
    · rw [e a o ne z] at h
      cases h
section
variable {X : Cx} {pins : List (Addr × Obj)} {σ : L2.St} {H : Hp} {s : Shared}
/-- a lambda just made is known from now on -/
theorem inv_lam {F : LF} {o : Obj} {t' : Nat} {pm ctv : Value} (I : Inv X pins σ H s) (ho : o = { cls := .type "function", data := .func (F.fd pm ctv) }) :
    Inv X pins σ (upd H s.heap.objs.size (LamO s.heap.objs.size F)) { s with heap := s.heap.push o, toks := t' } := by
  subst ho
  refine I.laid (a := s.heap.objs.size) (fun b u e => Heap.get?_push_of_some _ e) (Nat.le_refl _) ?_
  have e : (s.heap.push ({ cls := .type "function", data := .func (F.fd pm ctv) } : Obj)).get? s.heap.objs.size = some ({ cls := .type "function", data := .func (F.fd pm ctv) } : Obj) := Heap.get?_push_size _ rfl
  exact ⟨⟨_, _, pm, ctv, e⟩, ⟨_, e⟩, fun h1 h2 ⟨od, sl, p, t, z⟩ st => ⟨od, sl, p, t, st _ z⟩⟩
/-- the lambda is made: its code object is new, or found in the table -/
theorem lam_makeV {c P : Addr} {q : Str} {params : Arguments} {body : Expr} {scope : Scope} {pos : Pos} {E : Value → Shared → Prop} {Q : Value → Shared → Prop} (I : Inv X pins σ H s) (TB : TabB X.base X.mg c P) (hcode : X.env.code = .ref c)
    (hq : X.env.qual ++ "<lambda>" = q) (hT : TabS H P q) (hdef : defaultsOf params X.env = ([], [])) (hfree : ∀ y ∈ scope.names, y.2 = .free → ∃ c, X.env.cells.lookup y.1 = some c)
    (h : ∀ (f c' : Addr) (H1 : Hp) (s' : Shared), Inv X pins σ H1 s' → ExB P H H1 → TabS H1 P q → H f = none → H1 f = some (LamO f ⟨q, params, body, scope, cloFrom X.env.cells scope.names [], c'⟩) → H1 c' = some (CodeO c' q) → Q (.ref f) s') :
    wpAny (model X.prog X.w) X.A (eval (.Lambda params body scope pos) X.env) Q E s := by
  obtain ⟨ps, hP, ht, ha⟩ := hT
  refine PySem.W.kla_eval hdef ?_
  rw [hq]
  have bP : s.heap.BuiltinsAt X.mg P := TB.bm.keeps I.bk
  have hP' : s.heap.get? P = some { cls := .none, data := .fields ps } := I.hok P _ hP
  cases hc : codeAmong pos ps.toList with
  | none =>
    refine PySem.W.kla_makeFunction (mg := X.mg) (c := c) (P := P) (ps := ps) (closure_ok hfree) I.ok.glob (I.mod.glob.keeps I.bk) hcode (TB.code.keeps I.bk) hP' ht hc TB.gP bP fun c' ctv h' tk hx hge hlt hrec htb => ?_
    obtain ⟨c2, oc, vs, t, e2, hoc, hd, hv⟩ := hrec
    cases e2
    have nC : H c' = none := I.hok.fresh hge
    have I1 := inv_table (t' := tk) (more := #[rawInt pos.line, rawInt pos.col, .ref c']) (h' := h') I hP (fun b o hb e => hx b o hb e) htb hge ⟨oc, vs, t, hoc, hd, hv⟩
    have hE : ExB P H (upd (upd H P (.tbl (ps ++ #[rawInt pos.line, rawInt pos.col, .ref c']))) c' (CodeO c' q)) := fun b o n e => by
      rw [upd_ne (ne_of_none e nC), upd_ne n]
      exact e
    have eL : (ps ++ #[rawInt pos.line, rawInt pos.col, .ref c']).toList = ps.toList ++ [rawInt pos.line, rawInt pos.col, .ref c'] := by simp
    have T1 : TabS (upd (upd H P (.tbl (ps ++ #[rawInt pos.line, rawInt pos.col, .ref c']))) c' (CodeO c' q)) P q := by
      refine ⟨_, by rw [upd_ne (ne_of_none hP nC), upd_same], by rw [eL]; exact PySem.TriplesOk_snoc _ _ _ _ ht, fun p' cv hcv => ?_⟩
      rw [eL] at hcv
      rcases among_app _ ht hcv with z | z
      · obtain ⟨c0, e1, e2⟩ := ha p' cv z
        refine ⟨c0, e1, hE _ _ (fun y => ?_) e2⟩
        rw [y, hP] at e2
        exact codeO_ne ps (Option.some.inj e2).symm
      · exact ⟨c', z, upd_same⟩
    have nF := I1.hok.fresh (Nat.le_refl _)
    have I2 := inv_lam (F := ⟨q, params, body, scope, cloFrom X.env.cells scope.names [], c'⟩) (t' := tk) (pm := (X.mg "__name__").getD .none) (ctv := ctv) I1 rfl
    refine h h'.objs.size c' _ _ I2 (fun b o n e => ?_) (T1.ext fun b o e => ?_) (I.hok.fresh (Nat.le_trans hge (Nat.le_of_lt hlt))) upd_same ?_
    · have e1 := hE b o n e
      exact (upd_ne (ne_of_none e1 nF)).trans e1
    · exact (upd_ne (ne_of_none e nF)).trans e
    · exact (upd_ne (Nat.ne_of_lt hlt)).trans upd_same
  | some cv =>
    obtain ⟨c', e, hco⟩ := ha pos cv hc
    subst e
    refine PySem.W.kla_makeFunctionHit (mg := X.mg) (c := c) (P := P) (ps := ps) (closure_ok hfree) I.ok.glob (I.mod.glob.keeps I.bk) hcode (TB.code.keeps I.bk) hP' ht hc bP fun ctv h' tk hx hsz => ?_
    have I1 : Inv X pins σ H { s with heap := h', toks := tk } := I.kept hx
    have nF : H h'.objs.size = none := I1.hok.fresh (Nat.le_refl _)
    have I2 := inv_lam (F := ⟨q, params, body, scope, cloFrom X.env.cells scope.names [], c'⟩) (t' := tk) (pm := (X.mg "__name__").getD .none) (ctv := ctv) I1 rfl
    refine h h'.objs.size c' _ _ I2 (fun b o n e => ?_) (TabS.ext (H := H) ⟨ps, hP, ht, ha⟩ fun b o e => ?_) nF upd_same ?_
    · exact (upd_ne (ne_of_none e nF)).trans e
    · exact (upd_ne (ne_of_none e nF)).trans e
    · exact (upd_ne (ne_of_none hco nF)).trans hco
end
/-- the reading of a lambda: a new function -/
def tLamV (P : Addr) (q : Str) (mk : Addr → LF) : TE := fun _ H Q => TabS H P q ∧ ∀ (f c' : Addr) (H1 : Hp), ExB P H H1 → TabS H1 P q → H f = none → H1 f = some (LamO f (mk c')) → H1 c' = some (CodeO c' q) → Q (.ref f) H1
theorem pe_lam {X : Cx} {c P : Addr} {q : Str} {params : Arguments} {body : Expr} {scope : Scope} {pos : Pos} (TB : TabB X.base X.mg c P) (hcode : X.env.code = .ref c) (hq : X.env.qual ++ "<lambda>" = q) (hdef : defaultsOf params X.env = ([], []))
    (hfree : ∀ y ∈ scope.names, y.2 = .free → X.env.scope.names.lookup y.1 = some .cell ∨ X.env.scope.names.lookup y.1 = some .free) :
    PE X (.Lambda params body scope pos) (tLamV P q fun c' => ⟨q, params, body, scope, cloFrom X.env.cells scope.names [], c'⟩) := by
  refine ⟨fun pins s σ H Q I h => ?_⟩
  obtain ⟨hT, h⟩ := h
  have hfr : ∀ y ∈ scope.names, y.2 = .free → ∃ c, X.env.cells.lookup y.1 = some c := fun y hy e => (hfree y hy e).elim (fun z => I.ok.has _ (.inl z)) fun z => I.ok.has _ (.inr z)
  exact lam_makeV I TB hcode hq hT hdef hfr fun f c' H1 s' I1 eN T1 f0 f1 c1 => ⟨.ref f, H1, I1, rfl, h f c' H1 eN T1 f0 f1 c1⟩
/-! ### what it promises -/
structure LOk (P : Program) (w : World) (K : PySem.W.Frag) (mg : Str → Option Value) (base : Heap) (CX : CXT) (k : Nat) (f : Addr) (F : LF) (ps fr : List Str) (sp : List (Option V) → Sp) : Prop where
  len : ∀ ws vs H Q E, sp ws vs H Q E → vs.length = ps.length
  run : ∀ (A : Around) (outer : List Env) (s : Shared) (H : Hp) (us : List Value) (vs : List V) (ws : List (Option V)) (Q : VK) (E : XK), Room k A → Env0 P w K mg base A outer s H → H f = some (LamO f F) → H F.c = some (CodeO F.c F.qual) →
    CellsAt F.cl fr ws s.heap H → Vals vs us → sp ws vs H Q E → codeAny (model P w) A (.call (.ref f) ⟨us, []⟩) (CR CX outer P w H s Q E) s
section
variable {CX : CXT} {P : Program} {w : World} {K : PySem.W.Frag} {mg : Str → Option Value} {base : Heap} {N ps fr : List Str} {F : LF} {f : Addr} {k j : Nat} {sp sp' : List (Option V) → Sp}
theorem LOk.mono (o : LOk P w K mg base CX j f F ps fr sp) (h : j ≤ k) : LOk P w K mg base CX k f F ps fr sp := ⟨o.len, fun A outer s H us vs ws Q E hr => o.run A outer s H us vs ws Q E (hr.mono h)⟩
/-- a lambda by its body -/
theorem lok_of (S : NScope N ps fr F.scope) (hb : ∀ (pm ctv : Value) (us : List Value), us.length = ps.length → bindArgs (F.fd pm ctv) ⟨us, []⟩ = pure (ps.zip us)) (len : ∀ ws vs H Q E, sp ws vs H Q E → vs.length = ps.length)
    (hbody : ∀ (A : Around) (outer : List Env) (s : Shared) (H : Hp) (vs : List V) (ws : List (Option V)) (Q : VK) (E : XK), Room k (A.deeper (envF F.nf f s.heap.objs.size)) → ws.length = fr.length → sp ws vs H Q E →
      ∃ t, PE (ncx CX P w K mg base N F.nf f A outer s H E) F.body t ∧ t (startF N vs ws) H Q) :
    LOk P w K mg base CX (k + 1) f F ps fr sp := by
  refine ⟨len, fun A outer s H us vs ws Q E hr e0 hf hc C r hsp => ?_⟩
  have hl := len _ _ _ _ _ hsp
  have lim : s.heap.NoLimit := e0.mod.nolimit.keeps fun b o e => (e0.bs b o e).1
  obtain ⟨od, sl, pm, ctv, ho⟩ := lamO_at e0.hok hf
  refine PySem.W.kla_callFunE hr.depth ho rfl S.co S.gen rfl (codeO_at e0.hok hc) ?_
  rw [hb pm ctv us (by rw [← r.length]; exact hl)]
  refine wpAny_pure (wpAny_newFunctionEnv S.nocell (fun ⟨n, _⟩ hy => S.par n (List.of_mem_zip hy).1) (fun h₁ hns hsb => ⟨lim.fresh _ hsb, ?_⟩) S.kind)
  show codeAny _ _ (.expr F.body (envF F.nf f s.heap.objs.size)) _ _
  have kp : ∀ b o, s.heap.get? b = some o → h₁.get? b = some o := fun b o e => hsb.extBut b o (Nat.ne_of_lt (Heap.lt_size e)) (Heap.get?_push_of_some _ e)
  obtain ⟨t, ht, hq⟩ := hbody A outer s H vs ws Q E (hr.deeper _) C.len hsp
  have I : Inv (ncx CX P w K mg base N F.nf f A outer s H E) [] (startF N vs ws) H { s with heap := h₁, toks := s.toks + (ps.zip us).length } := inv_startN (F := F.nf) S hr.hd e0 hl r C hns kp
  refine PySem.W.kla_codeExpr (wpAny_mono (ht.run [] _ _ H Q I hq) (fun v s' hs => ?_) fun e s' hs => hs)
  obtain ⟨v', H', J, rv, q⟩ := hs
  exact ⟨v', H', J.os, J.bare, J.base, J.hok, rv, q⟩
end
/-! ### a call of what a name holds -/
section
variable {X : Cx} {pins : List (Addr × Obj)} {σ : L2.St} {H : Hp} {s : Shared} {cl : List (Str × Addr)} {fr : List Str} {ws : List (Option V)}
theorem cells_later (C : CellsAt cl fr ws X.s_0.heap X.H_0) (hx : X.ex = []) (I : Inv X pins σ H s) : CellsAt cl fr ws s.heap H := by
  have nx : ∀ c : Addr, c ∉ X.ex := fun c z => by rw [hx] at z; cases z
  have kp : ∀ y c, cl.lookup y = some c → ∀ v, X.s_0.heap.IsCell c v → s.heap.IsCell c v := fun y c e v ⟨o, ho, hd⟩ => by
    obtain ⟨sl, q⟩ := I.base.any ho (C.all y c e).1 (nx c)
    exact ⟨_, q, hd⟩
  refine ⟨C.len, fun y c e => ?_, C.inj, fun i y e => ?_⟩
  · obtain ⟨n, v, z⟩ := C.all y c e
    refine ⟨?_, v, kp y c e v z⟩
    obtain ⟨o, ho, _⟩ := z
    exact I.base.free c o ho n (nx c)
  · obtain ⟨c, hc, hv⟩ := C.has i y e
    refine ⟨c, hc, fun v ev => ?_⟩
    obtain ⟨u, r, z⟩ := hv v ev
    exact ⟨u, r, kp y c hc _ z⟩
theorem lamAt_of {f : Addr} {F : LF} (I : Inv X pins σ H s) (e : H f = some (LamO f F)) : PySem.W.FnAt f s.heap := by
  obtain ⟨od, sl, pm, ctv, ho⟩ := lamO_at I.hok e
  exact ⟨_, od, _, sl, ho⟩
end
/-- x(e), x a name that holds a lambda: where the running def began (h0, H0), its captured cells held ws -/
def tCallV (P : Program) (w : World) (K : PySem.W.Frag) (mg : Str → Option Value) (base h0 : Heap) (H0 : Hp) (CX : CXT) (k i : Nat) (E : L2.St → XK) (t : TA) : TE := fun σ H Q => ∃ (f : Addr) (F : LF) (ps fr : List Str) (ws : List (Option V)) (sp : List (Option V) → Sp),
  σ[i]? = some (some (.ref f)) ∧ H f = some (LamO f F) ∧ LOk P w K mg base CX k f F ps fr sp ∧ CellsAt F.cl fr ws h0 H0 ∧ t σ H fun vs H1 => H1 f = some (LamO f F) ∧ H1 F.c = some (CodeO F.c F.qual) ∧ sp ws vs H1 Q (E σ)
section
variable {X : Cx} {CX : CXT} {i j k : Nat} {x : Str} {E : L2.St → XK} {t : TA} {e : Expr} {es : List Expr} {p pos : Pos}
theorem pe_callV {P : Program} {w : World} {K : PySem.W.Frag} {mg : Str → Option Value} {base h0 : Heap} {H0 : Hp} (e1 : X.prog = P) (e2 : X.w = w) (e3 : X.K = K) (e4 : X.mg = mg) (e5 : X.base = base) (e6 : X.s_0.heap = h0) (e7 : X.H_0 = H0)
    (hr : Room j X.A) (hk : k ≤ j) (hex : X.ex = []) (hx : ∀ σ, PassesAt CX X σ (E σ)) (hN : X.N[i]? = some x) (hv : Vis X.env.scope x) (ha : PA X (e :: es) t)
    (hd : (x == ("__debug__" : Str)) = false := by decide) (hcd : (x == ("__classdict__" : Str)) = false := by decide)
    (he : starEach (e :: es) X.env = (false, eval e X.env) :: starEach es X.env := by rfl) (hpl : (backTo pos (starEach es X.env)).any (·.1) = false := by rfl) :
    PE X (.Call (.Name x p) (e :: es) [] pos) (tCallV P w K mg base h0 H0 CX k i E t) := by
  subst e1 e2 e3 e4 e5 e6 e7
  refine ⟨fun pins s σ H Q I h => ?_⟩
  obtain ⟨f, F, ps, fr, ws, sp, hs, hf, Fn, C0, ht⟩ := h
  refine wpAny_Call_Name_kw (thn ((pe_var (pos := p) hN hv hd hcd).run pins s σ H (fun v H1 => v = .ref f ∧ H1 = H) I ⟨.ref f, hs, rfl, rfl⟩) fun u s1 ⟨v, H1, I1, r1, q1⟩ => ?_)
  obtain ⟨ev, eH⟩ := q1
  subst ev
  rw [eH] at I1
  obtain rfl : u = Value.ref f := r1
  refine PySem.W.callWith_F (first := []) (lamAt_of I1 hf) (thn (ha.run pos pins s1 σ H _ I1 ht) fun us s2 ⟨vs, H2, I2, r, h1, h2, q⟩ => ⟨lamAt_of I2 h1, ?_⟩) he hpl
  show wpAny _ _ (call (.ref f) us) _ _ _
  refine wpAny_call (codeAny_mono (Fn.run X.A X.stack s2 H2 us vs ws Q (E σ) (hr.mono hk) I2.env0 h1 h2 (cells_later C0 hex I2) r q) fun r s' hq => ?_)
  cases r with
  | error e => exact hx σ pins H2 s2 e s' I2 hq
  | ok fl =>
    cases fl with
    | ret u => exact I2.after hq
    | next => exact False.elim hq
    | brk => exact False.elim hq
    | cont => exact False.elim hq
end
/-! ### a def whose promise is told of the very heap -/
structure FnOkS (P : Program) (w : World) (K : PySem.W.Frag) (mg : Str → Option Value) (base : Heap) (CX : CXT) (k : Nat) (f : Addr) (fd : FuncData) (ps : List Str) (sp : Heap → Sp) : Prop where
  len : ∀ h vs H Q E, sp h vs H Q E → vs.length = ps.length
  run : ∀ (A : Around) (outer : List Env) (s : Shared) (H : Hp) (args : Args) (us : List Value) (vs : List V) (Q : VK) (E : XK), Room k A → Env0 P w K mg base A outer s H → BindsTo s fd args (ps.zip us) → Vals vs us → sp s.heap vs H Q E →
    codeAny (model P w) A (.call (.ref f) args) (CR CX outer P w H s Q E) s
section
variable {P : Program} {w : World} {K : PySem.W.Frag} {mg : Str → Option Value} {base : Heap}
theorem okS {x qual : Str} {st : Stmt} {f : Addr} {fd : FuncData} {N ps : List Str} {k : Nat} {sp : Heap → Sp} (F : Fun K x qual st f fd) (S : FnScope N ps (defScope st)) (len : ∀ h vs H Q E, sp h vs H Q E → vs.length = ps.length)
    (hbody : ∀ (cdv : Value) (A : Around) (outer : List Env) (s : Shared) (H : Hp) (vs : List V) (Q : VK) (E : XK), Room k (A.deeper (envOfC qual (defScope st) s.heap.objs.size f cdv)) → sp s.heap vs H Q E →
      ∃ t, PSs (cxOf CX0 P w K mg base N qual (defScope st) f cdv A outer s H E).nox (defBody st) t ∧ t { nx := fun _ H' => Q .non H', rt := Q } (start N vs) H) : FnOkS P w K mg base CX0 (k + 1) f fd ps sp := by
  obtain ⟨oc, od, kV, doc, pm, an, cdv, ct, osl, rfl, lk, hcd⟩ := F.ex
  refine ⟨len, fun A outer s H args us vs Q E hr e0 hb r hsp => run_ofS lk hcd S hr e0 hb r (len _ _ _ _ _ hsp) fun hr' => ?_⟩
  obtain ⟨t, h, q⟩ := hbody cdv A outer s H vs Q E hr' hsp
  exact ⟨t, h.nox, q⟩
end
def tCallF (sp : L2.St → Sp) (E : XK) (t : TA) : TE := fun σ H Q => t σ H fun vs H1 => sp σ vs H1 Q E
section
variable {X : Cx} {CX : CXT} {k : Nat} {f : Addr} {fd : FuncData} {ps : List Str} {sp : Heap → Sp} {sq : L2.St → Sp} {E : XK} {x : Str} {p pos : Pos} {e : Expr} {es : List Expr} {t : TA}
theorem pe_callF (F : FnOkS X.prog X.w X.K X.mg X.base CX k f fd ps sp) (hr : Room k X.A) (hg : Gl X x) (hm : X.mg x = some (.ref f)) (hk : PySem.W.keepIn X.K (.ref f) = true) (hb : Binds X.K fd ps []) (hx : Passes CX X E)
    (hs : ∀ (pins : List (Addr × Obj)) (σ : L2.St) (H : Hp) (s : Shared) (vs : List V) (Q : VK) (E : XK), Inv X pins σ H s → sq σ vs H Q E → sp s.heap vs H Q E)
    (ha : PA X (e :: es) t) (hdb : (x == ("__debug__" : Str)) = false := by decide) (he : starEach (e :: es) X.env = (false, eval e X.env) :: starEach es X.env := by rfl) (hpl : (backTo pos (starEach es X.env)).any (·.1) = false := by rfl) :
    PE X (.Call (.Name x p) (e :: es) [] pos) (tCallF sq E t) := by
  refine ⟨fun pins s σ H Q I h => ?_⟩
  refine wpAny_Call_Name_kw (ld_glob I hg hm ?_ hdb)
  refine PySem.W.callWith_K (h₀ := X.base) I.ok.mod.kin hk (thn (ha.run pos pins s σ H _ I h) fun us s1 ⟨vs, H1, I1, r, q⟩ => ⟨I1.kIn, ?_⟩) he hpl
  have q := hs pins σ H1 s1 vs Q E I1 q
  have hl : us.length = ps.length := by rw [← r.length]; exact F.len _ _ _ _ _ q
  have hb' : BindsTo s1 fd ⟨us, []⟩ (ps.zip us) := by
    have z := hb s1 us I1.kIn (by rw [List.append_nil]; exact hl)
    rw [List.append_nil] at z
    exact z
  refine wpAny_call (codeAny_mono (F.run X.A X.stack s1 H1 ⟨us, []⟩ us vs Q E hr I1.env0 hb' r q) fun r s' hq => ?_)
  cases r with
  | error e => exact hx pins σ H1 s1 e s' I1 hq
  | ok fl =>
    cases fl with
    | ret u => exact I1.after hq
    | next => exact False.elim hq
    | brk => exact False.elim hq
    | cont => exact False.elim hq
end
/-! ### a def whose code object is known: it makes lambdas -/
structure FunC (K : PySem.W.Frag) (x qual : Str) (st : Stmt) (f : Addr) (fd : FuncData) (c : Addr) : Prop where
  ex : ∃ (oc : Value) (od : Option Addr) (kV doc pm : Value) (an : Option Addr) (ct : Value) (osl : Array (Option Value)),
    fd = PySem.W.fnOf x qual (defArgs st) (defBody st) (defScope st) .none kV doc pm an (.ref c) ct ∧ K.lookup f = some ⟨oc, od, .func fd, osl⟩ ∧ PySem.W.codeIn K (.ref c) qual = true
theorem okC {P : Program} {w : World} {K : PySem.W.Frag} {mg : Str → Option Value} {base : Heap} {x qual : Str} {st : Stmt} {f c : Addr} {fd : FuncData} {N ps : List Str} {k : Nat} {sp : Sp} (F : FunC K x qual st f fd c) (S : FnScope N ps (defScope st)) (len : ∀ vs H Q E, sp vs H Q E → vs.length = ps.length)
    (hbody : ∀ (A : Around) (outer : List Env) (s : Shared) (H : Hp) (vs : List V) (Q : VK) (E : XK), Room k (A.deeper (envOfC qual (defScope st) s.heap.objs.size f (.ref c))) → sp vs H Q E →
      ∃ t, PSs (cxOf CX0 P w K mg base N qual (defScope st) f (.ref c) A outer s H E).nox (defBody st) t ∧ t { nx := fun _ H' => Q .non H', rt := Q } (start N vs) H) : FnOk P w K mg base CX0 (k + 1) f fd ps sp := by
  obtain ⟨oc, od, kV, doc, pm, an, ct, osl, rfl, lk, hcd⟩ := F.ex
  exact fn_of lk hcd S len fun A outer s H vs Q E hr hsp => (hbody A outer s H vs Q E hr hsp).elim fun t h => ⟨t, h.1.nox, h.2⟩
theorem func_mk {K : PySem.W.Frag} {x qual : Str} {st : Stmt} {f c : Addr} {oc : Value} {od an : Option Addr} {osl : Array (Option Value)} {kV doc pm ct : Value} (l : K.lookup f = some ⟨oc, od, .func (PySem.W.fnOf x qual (defArgs st) (defBody st) (defScope st) .none kV doc pm an (.ref c) ct), osl⟩)
    (hc : PySem.W.codeIn K (.ref c) qual = true) : FunC K x qual st f (PySem.W.fnOf x qual (defArgs st) (defBody st) (defScope st) .none kV doc pm an (.ref c) ct) c := ⟨oc, od, kV, doc, pm, an, ct, osl, rfl, l, hc⟩
/-- the name of its lambdas -/
abbrev lamq (qual : Str) (st : Stmt) : Str := (envOfC qual (defScope st) 0 0 .none).qual ++ "<lambda>"
/-! ### the end, with the empty tables of some defs -/
/-- the table of the def x is empty -/
def TabAt (K : PySem.W.Frag) (mg : Str → Option Value) (h : Heap) (x : Str) : Prop := ∀ (f c P : Addr) (o : Obj) (fd : FuncData) (e : Value) (dd : Option Addr) (vs : Array Value) (sl : Array (Option Value)), mg x = some (.ref f) → K.lookup f = some o → o.data = .func fd → fd.code = .ref c →
  K.lookup c = some ⟨e, dd, .fields vs, sl⟩ → vs[11]? = some (.ref P) → h.get? P = some { cls := .none, data := .fields #[] }
theorem walk_tabs {l : PySem.W.OpenLaw} {n k : Nat} {q : Program} {loose : List Str} {XP : (Str → Option Value) → Heap → Prop} {YP : World → Heap → Prop} {d : DefRec} {K : Params → PySem.W.Frag} {CX : World → CXT} {x : Str} (names : List Str)
    (hn : l.most = some n) (hn2 : n ≤ sizeLine) (hdf : d.params.defaults = []) (hr : Room k callerA) (hrec : (names.all fun y => (recsOf q).any fun e => e.name == y) = true) (hY : ∀ (w : World) (h : Heap), YP w h → (K w.params).In h)
    (F : ∀ (w : World) (mg : Str → Option Value) (fa : Addr) (h : Heap), YP w h → (K w.params).In h → h.Ns mainGlobals mg → mg d.name = some (.ref fa) → (∀ y ∈ names, TabAt (K w.params) mg h y) → LawAtS l w (K w.params) (CX w) k n x mg fa h)
    (hCX : ∀ (w : World) (H : Hp) (s : Shared) (e : Value) (s' : Shared), CX w [] H s (fun _ _ _ => False) e s' → False) :
    PySem.W.WalkO q loose XP YP l.row.toRowW d [] (fun f vs => PySem.call f vs) := by
  refine Att.attach_callB hn hdf fun w s₀ s₁ mg mb fa o pm cd doc a vs ns G Y ho hd hcd hmg hobj hints hlen hbits hg => ?_
  have KX := hY w _ Y
  have tabs : ∀ y ∈ names, TabAt (K w.params) mg s₁.heap y := fun y hy f c P o1 fd1 e dd vs1 sl k0 k1 k2 k3 k4 k5 => by
    obtain ⟨dL, hm, hn1⟩ := List.any_eq_true.mp (List.all_eq_true.mp hrec y hy)
    obtain ⟨a', o', fd', c', P', t1, t2, t3, t4, _, ⟨oc, vc, e1, _, e3, e4⟩, hP⟩ := G.T.tab dL hm
    rw [beq_iff_eq.mp hn1, k0] at t1
    cases t1
    rw [KX _ _ k1] at t2
    cases t2
    rw [k2] at t3
    cases t3
    rw [k3] at t4
    cases t4
    rw [KX _ _ k4] at e1
    cases e1
    cases e3
    rw [k5] at e4
    cases e4
    exact hP
  obtain ⟨fd, cs, sp, hT, nT, C, hb, hsp, hF⟩ := F w mg fa _ Y KX G.T.g hmg tabs
  exact law_callTs KX G.T.g G.T.b G.T.builtins G.T.nolimit hg hT nT C G.T.bmain hobj hints (Nat.le_trans hlen hn2) hr hF hb (fun H hH hS => hsp H a ns hlen hbits hH hS) fun H e s' => hCX w H s₁ e s'
/-! ### readings where a lambda is made on the way: all but the table is kept -/
section
variable {K : PySem.W.Frag} {σ : L2.St} {H H' : Hp} {ta tb te : TE} {t : TT} {D : Ends} {tu tw tz : TS} {P : Addr} {q : Str}
def EvB (P : Addr) (q : Str) (te : TE) (σ : L2.St) (H : Hp) (v : V) : Prop := ∀ Q : VK, (∀ H2, ExB P H H2 → TabS H2 P q → Q v H2) → te σ H Q
def EvTB (P : Addr) (q : Str) (tt : TT) (σ : L2.St) (H : Hp) (b : Bool) : Prop := ∀ Q : Bool → Hp → Prop, (∀ H2, ExB P H H2 → TabS H2 P q → Q b H2) → tt σ H Q
theorem eb_notB {b : Bool} (h : EvB P q te σ H (.bl b)) : EvTB P q (tNot (tB te)) σ H (!b) := fun Q k => h _ fun H2 e t => ⟨b, rfl, k H2 e t⟩
/-- an if whose test makes a lambda, and is False -/
theorem qb_skip (h : EvTB P q t σ H false) (k : ∀ H1, ExB P H H1 → TabS H1 P q → tz D σ H1) : tSeq (tIfS t tu tNext) tz D σ H := h _ fun H1 e t => by
  rw [if_neg Bool.false_ne_true]
  exact k H1 e t
theorem sb_skip (h : EvTB P q t σ H false) (k : ∀ H1, ExB P H H1 → TabS H1 P q → D.nx σ H1) : tIfS t tu tNext D σ H := h _ fun H1 e t => by
  rw [if_neg Bool.false_ne_true]
  exact k H1 e t
theorem sb_ret {v : V} (h : EvB P q te σ H v) (k : ∀ H1, ExB P H H1 → TabS H1 P q → D.rt v H1) : tRet te D σ H := h _ k
end
end PA

set_option Elab.async false
set_option linter.all false
set_option maxRecDepth 100000
set_option maxHeartbeats 4000000
namespace PA
open PySem PySem.Spec PyProof.Rows L2 Evl LamX NdefX
/-! ### lambdas that call a def: g(x), g(3, x), g(y, x), g(y + 2, x) -/
section
variable {P : Program} {w : World} {K : PySem.W.Frag} {mg : Str → Option Value} {base : Heap} {kg : Nat} {ag : Addr} {dg : FuncData} {spg : Sp} {f : Addr} {F : LF} {g x y pa pb : Str} {p1 p2 p3 p4 p5 p6 : Pos} {n : Int} {j : Nat}
theorem lok_x (G : FnOk P w K mg base (L2N.CX P w) kg ag dg [pa] spg) (hm : mg g = some (.ref ag)) (hk : PySem.W.keepIn K (.ref ag) = true) (hbd : Binds K dg [pa] []) (S : NScope [x] [x] [] F.scope) (hB : F.body = .Call (.Name g p1) [.Name x p2] [] p3) (hg : F.scope.names.lookup g = some .globalImplicit)
    (hb : ∀ (pm ctv : Value) (us : List Value), us.length = 1 → bindArgs (F.fd pm ctv) ⟨us, []⟩ = pure ([x].zip us)) (hd : (g == ("__debug__" : Str)) = false := by decide) (h1 : (x == ("__debug__" : Str)) = false := by decide) (h2 : (x == ("__classdict__" : Str)) = false := by decide) :
    LOk P w K mg base (L2N.CX P w) (kg + 1) f F [x] [] (fun _ vs H Q E => ∃ u, vs = [u] ∧ spg [u] H Q E) := by
  refine lok_of S hb (fun ws vs H Q E h => ?_) fun A outer s H vs ws Q E hr hl h => ?_
  · obtain ⟨u, rfl, _⟩ := h
    rfl
  · obtain ⟨u, rfl, h⟩ := h
    rw [hB]
    exact ⟨_, pe_call G hr hg hm hk hbd .nil (L2N.passes_call (L2N.takes_of rfl rfl rfl rfl) (fun _ _ _ _ h => h)) (pa_cons (pe_var (i := 0) rfl (Or.inl (S.par x List.mem_cons_self)) h1 h2) pa_nil) hd, u, rfl, h⟩
theorem lok_cx (G : FnOk P w K mg base (L2N.CX P w) kg ag dg [pa, pb] spg) (hm : mg g = some (.ref ag)) (hk : PySem.W.keepIn K (.ref ag) = true) (hbd : Binds K dg [pa, pb] []) (S : NScope [x] [x] [] F.scope) (hB : F.body = .Call (.Name g p1) [.Constant (.int n) j p2, .Name x p3] [] p4) (hg : F.scope.names.lookup g = some .globalImplicit)
    (hb : ∀ (pm ctv : Value) (us : List Value), us.length = 1 → bindArgs (F.fd pm ctv) ⟨us, []⟩ = pure ([x].zip us)) (hd : (g == ("__debug__" : Str)) = false := by decide) (h1 : (x == ("__debug__" : Str)) = false := by decide) (h2 : (x == ("__classdict__" : Str)) = false := by decide) :
    LOk P w K mg base (L2N.CX P w) (kg + 1) f F [x] [] (fun _ vs H Q E => ∃ u, vs = [u] ∧ spg [.int n, u] H Q E) := by
  refine lok_of S hb (fun ws vs H Q E h => ?_) fun A outer s H vs ws Q E hr hl h => ?_
  · obtain ⟨u, rfl, _⟩ := h
    rfl
  · obtain ⟨u, rfl, h⟩ := h
    rw [hB]
    exact ⟨_, pe_call G hr hg hm hk hbd .nil (L2N.passes_call (L2N.takes_of rfl rfl rfl rfl) (fun _ _ _ _ h => h)) (pa_cons pe_int (pa_cons (pe_var (i := 0) rfl (Or.inl (S.par x List.mem_cons_self)) h1 h2) pa_nil)) hd, u, rfl, h⟩
theorem lok_vx (G : FnOk P w K mg base (L2N.CX P w) kg ag dg [pa, pb] spg) (hm : mg g = some (.ref ag)) (hk : PySem.W.keepIn K (.ref ag) = true) (hbd : Binds K dg [pa, pb] []) (S : NScope [x, y] [x] [y] F.scope) (hB : F.body = .Call (.Name g p1) [.Name y p2, .Name x p3] [] p4) (hg : F.scope.names.lookup g = some .globalImplicit)
    (hb : ∀ (pm ctv : Value) (us : List Value), us.length = 1 → bindArgs (F.fd pm ctv) ⟨us, []⟩ = pure ([x].zip us)) (hd : (g == ("__debug__" : Str)) = false := by decide) (h1 : (x == ("__debug__" : Str)) = false := by decide) (h2 : (x == ("__classdict__" : Str)) = false := by decide)
    (h3 : (y == ("__debug__" : Str)) = false := by decide) (h4 : (y == ("__classdict__" : Str)) = false := by decide) :
    LOk P w K mg base (L2N.CX P w) (kg + 1) f F [x] [y] (fun ws vs H Q E => ∃ u v, vs = [u] ∧ ws = [some v] ∧ spg [v, u] H Q E) := by
  refine lok_of S hb (fun ws vs H Q E h => ?_) fun A outer s H vs ws Q E hr hl h => ?_
  · obtain ⟨u, v, rfl, _⟩ := h
    rfl
  · obtain ⟨u, v, rfl, rfl, h⟩ := h
    rw [hB]
    exact ⟨_, pe_call G hr hg hm hk hbd .nil (L2N.passes_call (L2N.takes_of rfl rfl rfl rfl) (fun _ _ _ _ h => h)) (pa_cons (pe_var (i := 1) rfl (Or.inr (Or.inr (S.frk y List.mem_cons_self))) h3 h4) (pa_cons (pe_var (i := 0) rfl (Or.inl (S.par x List.mem_cons_self)) h1 h2) pa_nil)) hd, v, rfl, u, rfl, h⟩
theorem lok_v2x (G : FnOk P w K mg base (L2N.CX P w) kg ag dg [pa, pb] spg) (hm : mg g = some (.ref ag)) (hk : PySem.W.keepIn K (.ref ag) = true) (hbd : Binds K dg [pa, pb] []) (S : NScope [x, y] [x] [y] F.scope) (hB : F.body = .Call (.Name g p1) [.BinOp (.Name y p2) .Add (.Constant (.int n) j p5) p6, .Name x p3] [] p4) (hg : F.scope.names.lookup g = some .globalImplicit)
    (hb : ∀ (pm ctv : Value) (us : List Value), us.length = 1 → bindArgs (F.fd pm ctv) ⟨us, []⟩ = pure ([x].zip us)) (hd : (g == ("__debug__" : Str)) = false := by decide) (h1 : (x == ("__debug__" : Str)) = false := by decide) (h2 : (x == ("__classdict__" : Str)) = false := by decide)
    (h3 : (y == ("__debug__" : Str)) = false := by decide) (h4 : (y == ("__classdict__" : Str)) = false := by decide) :
    LOk P w K mg base (L2N.CX P w) (kg + 1) f F [x] [y] (fun ws vs H Q E => ∃ (u : V) (m : Int), vs = [u] ∧ ws = [some (.int m)] ∧ spg [.int (m + n), u] H Q E) := by
  refine lok_of S hb (fun ws vs H Q E h => ?_) fun A outer s H vs ws Q E hr hl h => ?_
  · obtain ⟨u, v, rfl, _⟩ := h
    rfl
  · obtain ⟨u, m, rfl, rfl, h⟩ := h
    rw [hB]
    exact ⟨_, pe_call G hr hg hm hk hbd .nil (L2N.passes_call (L2N.takes_of rfl rfl rfl rfl) (fun _ _ _ _ h => h)) (pa_cons (pe_op op_add (pe_var (i := 1) rfl (Or.inr (Or.inr (S.frk y List.mem_cons_self))) h3 h4) pe_int) (pa_cons (pe_var (i := 0) rfl (Or.inl (S.par x List.mem_cons_self)) h1 h2) pa_nil)) hd, .int m, rfl, m, n, rfl, rfl, u, rfl, h⟩
end
end PA

set_option Elab.async false
set_option linter.all false
set_option maxRecDepth 100000
set_option maxHeartbeats 4000000
namespace PA
open PySem PySem.Spec PyProof.Rows L2 Evl L2H
/-! ### a list comprehension while an error is handled -/
/-- one more pin for the context -/
abbrev pnd (X : Cx) (p : Addr × Obj) : Cx := { X with pn := [p] }
section
variable {X : Cx} {pins : List (Addr × Obj)} {σ : L2.St} {H : Hp} {s : Shared}
theorem pnd_in {p : Addr × Obj} (h0 : X.pn = []) (I : Inv X pins σ H s) (hp : s.heap.get? p.1 = some p.2 ∧ H p.1 = none ∧ p.1 ≠ X.env.locals ∧ p.1 ∉ X.fs ∧ ∀ v, p.2.data ≠ .cell v) : Inv (pnd X p) pins σ H s := by
  have k := I.ok
  refine ⟨⟨k.mod, k.kind, k.glob, k.blt, k.above, k.inj, k.has, k.cab, k.hd, k.frames, k.stk, k.exf, k.bs, k.bsz, k.noex, k.exfs, k.funs, k.frf⟩, I.os, I.bare, I.base, I.loc, I.cell, I.free, I.freeC, fun q hq => ?_, I.hok, I.len⟩
  rcases List.mem_append.mp hq with z | z
  · have e : q = p := by simpa using z
    rw [e]
    exact hp
  · exact I.pin q (List.mem_append_right _ z)
theorem pnd_out {p : Addr × Obj} (h0 : X.pn = []) (I : Inv (pnd X p) pins σ H s) : Inv X pins σ H s := by
  have k := I.ok
  refine ⟨⟨k.mod, k.kind, k.glob, k.blt, k.above, k.inj, k.has, k.cab, k.hd, k.frames, k.stk, k.exf, k.bs, k.bsz, k.noex, k.exfs, k.funs, k.frf⟩, I.os, I.bare, I.base, I.loc, I.cell, I.free, I.freeC, fun q hq => ?_, I.hok, I.len⟩
  rw [h0, List.nil_append] at hq
  exact I.pin q (List.mem_append_right _ hq)
end
section
variable {X : Cx}
theorem pe_lcH {elt tg iter : Expr} {ifs : List Expr} {scope : Scope} {own : List (Str × Nat)} {pos : Pos} {wi : TI} {g : TG} {tt : TT} {te : TE} (hot : HotC X) (hN : X.N.Nodup) (hi : PIH X tg iter wi) (ok : BlkOk X.N X.env.scope scope own)
    (hg : ∀ (s : Shared) (H : Hp) (C : Addr) (cl : List (Str × Addr)) (fp : List Addr), PG (X.blk s H scope (compEnvC scope cl C X.env) fp) tg g) (ht : ∀ (s : Shared) (H : Hp) (C : Addr) (cl : List (Str × Addr)) (fp : List Addr), PTs (X.blk s H scope (compEnvC scope cl C X.env) fp) ifs tt)
    (he : ∀ (s : Shared) (H : Hp) (C : Addr) (cl : List (Str × Addr)) (fp : List Addr), PE (X.blk s H scope (compEnvC scope cl C X.env) fp) elt te) (hs : ∀ x, foldedSetIterable iter X.env x = pure x := by intro _; rfl) :
    PE X (.ListComp elt [⟨tg, iter, ifs, 0⟩] scope pos) (tLc wi g tt te (own.map (·.2))) := by
  obtain ⟨p, h1, hp⟩ := hot
  refine ⟨fun pins s σ H Q I h => ?_⟩
  rw [eval_ListComp]
  have fr : ∀ y ∈ scope.names, y.2 = .free → ∃ c, X.env.cells.lookup y.1 = some c := fun y hy e => (ok.free y hy e).elim (fun k => I.ok.has _ (.inl k)) fun k => I.ok.has _ (.inr k)
  refine wpAny_comprehension_free (use := none) rfl hs (closure_ok fr) ok.kind (fun y hy e => by rw [ok.uniq y hy, e]) (thn (hi.run pins s σ H _ I h) fun xv s1 hx => thn hx fun itv s2 h2 => ?_)
  obtain ⟨it, fp, tn, J, H2, rfl, I2, T, st2, f2, q⟩ := h2
  refine wpAny_newObj_type (newEnv_comp ?_) (by show 0 ≤ sizeLine; decide)
  generalize hD : s2.heap.objs.size = D
  obtain ⟨W, ⟨m0, w0⟩, turn⟩ := q D (I2.hok.fresh (Nat.le_of_eq hD))
  generalize hs3 : ({ s2 with heap := s2.heap.push { cls := .type "list", data := .seq ([] : List Value).toArray } } : Shared) = s3
  have h3 : s3.heap = s2.heap.push { cls := .type "list", data := .seq ([] : List Value).toArray } := by rw [← hs3]
  have I3 : Inv X pins σ (upd H2 D (.lst [])) s3 := by
    rw [← hs3]
    refine I2.laid (t' := s2.toks) (fun b o e => Heap.get?_push_of_some _ e) (Nat.le_of_eq hD) ⟨Nat.zero_le _, [], 0, .nil, ?_⟩
    rw [← hD]
    exact Heap.get?_push_size _ rfl
  have f3 : ∀ b ∈ fp, FpOk X pins (upd H2 D (.lst [])) b ∧ b < s3.heap.objs.size := fun b hb => by
    obtain ⟨o, e, _⟩ := T.obj _ _ st2 b hb
    have lt := Heap.lt_size e
    refine ⟨⟨?_, (f2 b hb).2⟩, by rw [h3, Heap.size_push]; exact Nat.lt_succ_of_lt lt⟩
    rw [upd_ne (by rw [← hD]; exact Nat.ne_of_lt lt)]
    exact (f2 b hb).1
  have st3 : tn 0 s3.heap := T.keep _ _ _ st2 fun b _ o e => by rw [h3]; exact Heap.get?_push_of_some _ e
  have I4 := block_start I3 ok hN f3
  have pg := hg s3 (upd H2 D (.lst [])) s3.heap.objs.size (cellsFrom (s3.heap.objs.size + 1) scope.names (cloFrom X.env.cells scope.names [])) fp
  have pt := ht s3 (upd H2 D (.lst [])) s3.heap.objs.size (cellsFrom (s3.heap.objs.size + 1) scope.names (cloFrom X.env.cells scope.names [])) fp
  have pe := he s3 (upd H2 D (.lst [])) s3.heap.objs.size (cellsFrom (s3.heap.objs.size + 1) scope.names (cloFrom X.env.cells scope.names [])) fp
  show codeAny _ _ (.compStart (.ListComp elt [⟨tg, iter, ifs, 0⟩] scope pos) 0 (.ref it) (.ref D) (compEnvC scope (cellsFrom (s3.heap.objs.size + 1) scope.names (cloFrom X.env.cells scope.names [])) s3.heap.objs.size X.env)) (compPost (model X.prog X.w) X.A X.xe none (EP X pins σ Q) (.ref D) s3.heap.objs.size) { s3 with heap := pushCells (s3.heap.push { cls := .type "dict", data := .dict #[] }) scope.names }
  have nfp : ∀ b ∈ fp, (upd H2 D (.lst [])) b = none := fun b hb => (f3 b hb).1.1
  generalize hce : compEnvC scope (cellsFrom (s3.heap.objs.size + 1) scope.names (cloFrom X.env.cells scope.names [])) s3.heap.objs.size X.env = ce at I4 pg pt pe ⊢
  have cL : ce.locals = s3.heap.objs.size := by subst hce; rfl
  generalize hH3 : upd H2 D (.lst []) = H3 at I3 I4 pg pt pe w0 nfp f3
  generalize hs4 : ({ s3 with heap := pushCells (s3.heap.push { cls := .type "dict", data := .dict #[] }) scope.names } : Shared) = s4 at I4 ⊢
  have st4 : tn 0 s4.heap := T.keep _ _ _ st3 fun b _ o e => by rw [← hs4]; exact pushCells_keeps _ _ _ _ (Heap.get?_push_of_some _ e)
  -- the handled error stands through the block
  have P3 := I3.pin p (List.mem_append_left _ hp)
  have pinned : ∀ {σ' : L2.St} {H' : Hp} {s' : Shared}, Inv (X.blk s3 H3 scope ce fp) [] σ' H' s' → Inv (pnd (X.blk s3 H3 scope ce fp) p) [] σ' H' s' := fun {σ' H' s'} I' => by
    have nst : p.1 ∉ frs X.stack := fun hm => (List.mem_cons.mp (I3.stkSub p.1 hm)).elim P3.2.2.1 P3.2.2.2.1
    have nfp' : p.1 ∉ fp := fun hm => (f3 p.1 hm).1.2.2.2.2.2 p (List.mem_append_left _ hp) rfl
    refine pnd_in rfl I' ⟨I'.base.keep p.1 p.2 P3.1 P3.2.1 nst nfp', I'.base.free p.1 p.2 P3.1 P3.2.1 nfp', ?_, nst, P3.2.2.2.2⟩
    show p.1 ≠ ce.locals
    rw [cL]
    exact Nat.ne_of_lt (Heap.lt_size P3.1)
  have hotB : HotC (pnd (X.blk s3 H3 scope ce fp) p) := ⟨p, h1, List.mem_cons_self⟩
  have stat : ∀ {σ' : L2.St} {H' : Hp} {s' : Shared}, Inv (X.blk s3 H3 scope ce fp) [] σ' H' s' → (∀ b ∈ fp, H' b = none) → ∀ b ∈ fp, FpOk (pnd (X.blk s3 H3 scope ce fp) p) [] H' b := fun {σ' H' s'} I' hn b hb =>
    ⟨hn b hb, (I'.ok.exf b hb).1, I'.ok.exfs b hb, .inl hb, fun x c e => (I'.ok.exf b hb).2 x c e, fun r hr => by
      have e : r = p := by simpa using hr
      rw [e]
      exact (f3 b hb).1.2.2.2.2.2 p (List.mem_append_left _ hp)⟩
  have loop : codeAny (model X.prog X.w) X.A (.compLoop (.ListComp elt [⟨tg, iter, ifs, 0⟩] scope pos) 0 (.ref it) (.ref D) ce) (compPost (model X.prog X.w) X.A X.xe none (EP X pins σ Q) (.ref D) s3.heap.objs.size) s4 := by
    refine compLoop_any (fun n s' => ∃ i H', Inv (X.blk s3 H3 scope ce fp) [] (wipe σ (own.map (·.2))) H' s' ∧ tn i s'.heap ∧ (∀ b ∈ fp, H' b = none) ∧ W i n H') ?_ m0 ⟨0, H3, I4, st4, nfp, w0⟩
    rintro n s5 ⟨i, H5, I5, st5, n5, w5⟩
    rcases turn i n H5 w5 with ⟨stop, qq⟩ | ⟨go, Nx, hNx, step⟩
    · refine thnF (T.done (pnd (X.blk s3 H3 scope ce fp) p) rfl rfl rfl hotB i [] s5 _ H5 (fun _ _ => False) (pinned I5) (stat I5 n5) st5 stop) fun r s6 ⟨hr, I6⟩ => ?_
      subst hr
      have I6 := pnd_out rfl I6
      have I7 : Inv X pins σ H5 s6 := I3.call' (ch := fp) I6.os I6.base I6.hok I6.bare fun b hb => ⟨(f3 b hb).1.2.2.2.1, (f3 b hb).1.2.1, (f3 b hb).1.2.2.2.2.1, (f3 b hb).1.2.2.2.2.2⟩
      have nC : H5 s3.heap.objs.size = none := by
        have z : H5 ce.locals = none := I6.free
        rw [cL] at z
        exact z
      obtain ⟨m, hn, _⟩ := I6.loc
      have hn : s6.heap.Ns ce.locals m := hn
      rw [cL] at hn
      obtain ⟨k0, k1, k2, k3, k4, k5⟩ := I3.fpOk (H' := H5) (Nat.le_refl _) nC
      exact ⟨m, hn, fun h'' sb => ⟨.ref D, H5, I7.turned (t' := s6.toks) (fun b o hb e => (sb.2 b hb).trans e) k0 k1 k3 k4 k5, rfl, qq⟩⟩
    · refine thnF (T.item (pnd (X.blk s3 H3 scope ce fp) p) rfl rfl rfl hotB i [] s5 _ H5 (fun _ _ => False) (pinned I5) (stat I5 n5) st5 go) fun r s6 ⟨u, hr, h6⟩ => ?_
      subst hr
      refine thnF h6 fun _ s7 ⟨x, H7, I7p, r7, y7, st7, n7⟩ => ?_
      have I7 := pnd_out rfl I7p
      have fpk : ∀ b ∈ fp, FpOk (X.blk s3 H3 scope ce fp) [] H7 b := fun b hb => by
        obtain ⟨a1, a2, a3, a4, a5, _⟩ := stat I7 n7 b hb
        exact ⟨a1, a2, a3, a4, a5, fun r hr => nomatch (show r ∈ ([] : List (Addr × Obj)) from hr)⟩
      refine thnF (pg.run _ s7 _ H7 x u _ (I7.pinned fpk (T.obj _ _ st7)) r7 (step x H7 y7)) fun _ s8 ⟨σ8, H8, I8, hw8, q8⟩ => ?_
      refine thnF (pt.run _ s8 σ8 H8 _ I8 q8) fun b s9 ⟨H9, I9, q9⟩ => ?_
      have fin : ∀ {s' : Shared} {H' : Hp}, Inv (X.blk s3 H3 scope ce fp) ([] ++ pinsAt fp s7.heap) σ8 H' s' → Nx H' → ∃ m, m < n ∧ ∃ i H', Inv (X.blk s3 H3 scope ce fp) [] (wipe σ (own.map (·.2))) H' s' ∧ tn i s'.heap ∧ (∀ b ∈ fp, H' b = none) ∧ W i m H' := fun {s' H'} I' nx => by
        obtain ⟨m', hm, w'⟩ := hNx H' nx
        have pin' : ∀ b ∈ fp, ∀ o, s7.heap.get? b = some o → s'.heap.get? b = some o ∧ H' b = none := fun b hb o e =>
          have z := I'.pin (b, o) (List.mem_append_right _ (List.mem_append_right _ (mem_pinsAt hb e)))
          ⟨z.1, z.2.1⟩
        refine ⟨m', hm, i + 1, H', (I'.unpinned (pins := [])).weak (by rw [← hw8, wipe_length]) (fun j v e => ?_), T.keep _ _ _ st7 fun b hb o e => (pin' b hb o e).1, fun b hb => ?_, w'⟩
        · rw [← hw8] at e
          exact (wipe_some e).1
        · obtain ⟨o, e, _⟩ := T.obj _ _ st7 b hb
          exact (pin' b hb o e).2
      cases b with
      | false =>
        simp only [Bool.false_eq_true, if_false] at q9 ⊢
        exact fin I9 q9
      | true =>
        simp only [if_true] at q9 ⊢
        refine thnF (pe.run _ s9 σ8 H9 _ I9 q9) fun z s10 ⟨yv, H10, I10, r10, acc, hD10, hz10, nx⟩ => ?_
        exact app_ok (X := X.blk s3 H3 scope ce fp) I10 hD10 hz10 r10 fun s11 I11 => fin I11 nx
  exact codeAny_compStart_list loop (T.self X.A 0 _ _ _ st4 loop)
end
/-- the suite of an error whose context is None bears it -/
theorem hot_suite {X : Cx} {a : Addr} {cls : Value} {d : Option Addr} {oe : Obj} {pn : List (Addr × Obj)} (hz : L2N.Zn cls d oe) (hf : ∃ vs, oe.data = .fields vs) : HotC (X.suite a ((a, oe) :: pn)) := by
  obtain ⟨vs, hv⟩ := hf
  exact ⟨(a, oe), ⟨rfl, vs, hv, hz.2.2 _ hv⟩, List.mem_cons_self⟩
end PA

set_option Elab.async false
set_option linter.all false
set_option maxRecDepth 100000
set_option maxHeartbeats 4000000
namespace PA
open PySem PySem.Spec PyProof.Rows L2 Evl
/-! ### the written table of small rows -/
def KTup (K : PySem.W.Frag) (a : Addr) (ns : List Int) : Prop := ∀ H, SqT K H a (ns.map V.int)
def Firsts (K : PySem.W.Frag) (d : Addr) : Prop := ∀ l : Int, l = 1 ∨ l = 4 ∨ l = 5 → ∃ a, KInt K d l (.ref a) ∧ KTup K a (small l)
theorem ktup_mk {K : PySem.W.Frag} {a : Addr} {dd : Option Addr} {its : Array Value} {n : Nat} {sl : Array (Option Value)} {ns : List Int} (h : K.lookup a = some ⟨.type "tuple", dd, .seq its n, sl⟩) (hz : its.size ≤ 100) (hv : Vals (ns.map V.int) its.toList) : KTup K a ns :=
  fun _ => .inr ⟨_, its, n, h, rfl, rfl, Nat.le_trans hz (by decide), hv⟩
theorem firsts_mk {K : PySem.W.Frag} {d a1 a4 a5 : Addr} {t1 t4 t5 : Tok} {n : Nat} {dd1 dd4 dd5 : Option Addr} {n1 n4 n5 : Nat} {s1 s4 s5 : Array (Option Value)} {u0 u1 u2 u3 u4 u5 u6 u7 u8 u9 : Tok}
    (h : K.lookup d = some ⟨.type "dict", none, .dict #[⟨1, .int 1 t1, .ref a1⟩, ⟨4, .int 4 t4, .ref a4⟩, ⟨5, .int 5 t5, .ref a5⟩] n, #[]⟩)
    (h1 : K.lookup a1 = some ⟨.type "tuple", dd1, .seq #[.int 1 u0] n1, s1⟩) (h4 : K.lookup a4 = some ⟨.type "tuple", dd4, .seq #[.int 1 u1, .int 5 u2, .int 3 u3, .int 4 u4] n4, s4⟩)
    (h5 : K.lookup a5 = some ⟨.type "tuple", dd5, .seq #[.int 8 u5, .int 3 u6, .int 1 u7, .int 6 u8, .int 2 u9] n5, s5⟩) : Firsts K d := by
  have keys : ∀ e ∈ (#[⟨1, .int 1 t1, .ref a1⟩, ⟨4, .int 4 t4, .ref a4⟩, ⟨5, .int 5 t5, .ref a5⟩] : Array DictEntry), ∃ k t, e.key = .int k t ∧ e.hash = hashInt k := by
    intro e he
    simp only [List.mem_toArray, List.mem_cons, List.not_mem_nil, or_false] at he
    rcases he with rfl | rfl | rfl
    · exact ⟨1, t1, rfl, show (1 : Int) = hashInt 1 by decide⟩
    · exact ⟨4, t4, rfl, show (4 : Int) = hashInt 4 by decide⟩
    · exact ⟨5, t5, rfl, show (5 : Int) = hashInt 5 by decide⟩
  intro l hl
  rcases hl with rfl | rfl | rfl
  · exact ⟨a1, ⟨_, n, .ref a1, h, keys, rfl, rfl⟩, ktup_mk h1 (show 1 ≤ 100 by decide) (.cons ⟨_, rfl⟩ .nil)⟩
  · exact ⟨a4, ⟨_, n, .ref a4, h, keys, rfl, rfl⟩, ktup_mk h4 (show 4 ≤ 100 by decide) (.cons ⟨_, rfl⟩ (.cons ⟨_, rfl⟩ (.cons ⟨_, rfl⟩ (.cons ⟨_, rfl⟩ .nil))))⟩
  · exact ⟨a5, ⟨_, n, .ref a5, h, keys, rfl, rfl⟩, ktup_mk h5 (show 5 ≤ 100 by decide) (.cons ⟨_, rfl⟩ (.cons ⟨_, rfl⟩ (.cons ⟨_, rfl⟩ (.cons ⟨_, rfl⟩ (.cons ⟨_, rfl⟩ .nil)))))⟩
def topS (i : Nat) : Stmt := PySem.Challenge.pw_pairsapart_k08_whole_long.main.body.getD i (.Pass ⟨0, 0, 0, 0⟩)
abbrev s_Can_shows : Stmt := inClass (topS 2) 0
abbrev N_Can_shows : List Str := ["self", "last"]
theorem sc_Can_shows : FnScope ["self", "last"] ["self", "last"] (defScope s_Can_shows) := ⟨rfl, rfl, rfl, by decide +kernel, rfl, by decide +kernel, by decide +kernel⟩
abbrev s_Barred_shows : Stmt := inClass (topS 3) 0
abbrev N_Barred_shows : List Str := ["self", "last"]
theorem sc_Barred_shows : FnScope ["self", "last"] ["self", "last"] (defScope s_Barred_shows) := ⟨rfl, rfl, rfl, by decide +kernel, rfl, by decide +kernel, by decide +kernel⟩
abbrev s_is_right : Stmt := topS 4
abbrev N_is_right : List Str := ["row", "number", "first"]
theorem sc_is_right : FnScope ["row", "number", "first"] ["row", "number"] (defScope s_is_right) := ⟨rfl, rfl, rfl, by decide +kernel, rfl, by decide +kernel, by decide +kernel⟩
abbrev s_Good_shows : Stmt := inClass (topS 5) 0
abbrev N_Good_shows : List Str := ["self", "row", "number"]
theorem sc_Good_shows : FnScope ["self", "row", "number"] ["self", "row"] (defScope s_Good_shows) := ⟨rfl, rfl, rfl, by decide +kernel, rfl, by decide +kernel, by decide +kernel⟩
abbrev s_Off___init__ : Stmt := inClass (topS 6) 0
abbrev N_Off___init__ : List Str := ["self", "number"]
theorem sc_Off___init__ : FnScope ["self", "number"] ["self", "number"] (defScope s_Off___init__) := ⟨rfl, rfl, rfl, by decide +kernel, rfl, by decide +kernel, by decide +kernel⟩
abbrev s_Off_shows : Stmt := inClass (topS 6) 1
abbrev N_Off_shows : List Str := ["self", "row"]
theorem sc_Off_shows : FnScope ["self", "row"] ["self", "row"] (defScope s_Off_shows) := ⟨rfl, rfl, rfl, by decide +kernel, rfl, by decide +kernel, by decide +kernel⟩
abbrev s_is_number : Stmt := topS 16
abbrev N_is_number : List Str := ["thing"]
theorem sc_is_number : FnScope ["thing"] ["thing"] (defScope s_is_number) := ⟨rfl, rfl, rfl, by decide +kernel, rfl, by decide +kernel, by decide +kernel⟩
abbrev s_asked_last : Stmt := topS 17
abbrev N_asked_last : List Str := ["last"]
theorem sc_asked_last : FnScope ["last"] ["last"] (defScope s_asked_last) := ⟨rfl, rfl, rfl, by decide +kernel, rfl, by decide +kernel, by decide +kernel⟩
abbrev s_can : Stmt := topS 18
abbrev N_can : List Str := ["last"]
theorem sc_can : FnScope ["last"] ["last"] (defScope s_can) := ⟨rfl, rfl, rfl, by decide +kernel, rfl, by decide +kernel, by decide +kernel⟩
abbrev s_asked_row : Stmt := topS 19
abbrev N_asked_row : List Str := ["last"]
theorem sc_asked_row : FnScope ["last"] ["last"] (defScope s_asked_row) := ⟨rfl, rfl, rfl, by decide +kernel, rfl, by decide +kernel, by decide +kernel⟩
abbrev s_first_by_fours : Stmt := topS 20
abbrev N_first_by_fours : List Str := ["part", "number", "told"]
theorem sc_first_by_fours : FnScope ["part", "number", "told"] ["part", "number"] (defScope s_first_by_fours) := ⟨rfl, rfl, rfl, by decide +kernel, rfl, by decide +kernel, by decide +kernel⟩
abbrev s_first_by_ones : Stmt := topS 21
abbrev N_first_by_ones : List Str := ["part", "number", "told"]
theorem sc_first_by_ones : FnScope ["part", "number", "told"] ["part", "number"] (defScope s_first_by_ones) := ⟨rfl, rfl, rfl, by decide +kernel, rfl, by decide +kernel, by decide +kernel⟩
abbrev s_first_of : Stmt := topS 22
abbrev N_first_of : List Str := ["last", "number"]
theorem sc_first_of : FnScope ["last", "number"] ["last", "number"] (defScope s_first_of) := ⟨rfl, rfl, rfl, by decide +kernel, rfl, by decide +kernel, by decide +kernel⟩
abbrev s_both : Stmt := topS 23
abbrev N_both : List Str := ["last", "number", "first"]
theorem sc_both : FnScope ["last", "number", "first"] ["last", "number"] (defScope s_both) := ⟨rfl, rfl, rfl, by decide +kernel, rfl, by decide +kernel, by decide +kernel⟩
abbrev s_places_of : Stmt := topS 24
abbrev N_places_of : List Str := ["last", "number"]
theorem sc_places_of : FnScope ["last", "number"] ["last", "number"] (defScope s_places_of) := ⟨rfl, rfl, rfl, by decide +kernel, rfl, by decide +kernel, by decide +kernel⟩
abbrev s_at_place : Stmt := topS 25
abbrev N_at_place : List Str := ["last", "place", "part", "middle", "one", "some", "more", "number"]
theorem sc_at_place : FnScope ["last", "place", "part", "middle", "one", "some", "more", "number"] ["last", "place"] (defScope s_at_place) := ⟨rfl, rfl, rfl, by decide +kernel, rfl, by decide +kernel, by decide +kernel⟩
abbrev s_number_at : Stmt := topS 26
abbrev N_number_at : List Str := ["last", "place"]
theorem sc_number_at : FnScope ["last", "place"] ["last", "place"] (defScope s_number_at) := ⟨rfl, rfl, rfl, by decide +kernel, rfl, by decide +kernel, by decide +kernel⟩
abbrev s_asked_list : Stmt := topS 29
abbrev N_asked_list : List Str := ["row", "one"]
theorem sc_asked_list : FnScope ["row", "one"] ["row"] (defScope s_asked_list) := ⟨rfl, rfl, rfl, by decide +kernel, rfl, by decide +kernel, by decide +kernel⟩
abbrev s_told : Stmt := topS 30
abbrev N_told : List Str := ["row", "number"]
theorem sc_told : FnScope ["row", "number"] ["row"] (defScope s_told) := ⟨rfl, rfl, rfl, by decide +kernel, rfl, by decide +kernel, by decide +kernel⟩
abbrev s_three_by : Stmt := topS 32
abbrev N_three_by : List Str := ["last", "number", "first"]
theorem sc_three_by : FnScope ["last", "number", "first"] ["last", "number"] (defScope s_three_by) := ⟨rfl, rfl, rfl, by decide +kernel, rfl, by decide +kernel, by decide +kernel⟩
abbrev s_three_of : Stmt := topS 33
abbrev N_three_of : List Str := ["last", "number"]
theorem sc_three_of : FnScope ["last", "number"] ["last", "number"] (defScope s_three_of) := ⟨rfl, rfl, rfl, by decide +kernel, rfl, by decide +kernel, by decide +kernel⟩
abbrev s__law_refused : Stmt := topS 35
abbrev N__law_refused : List Str := ["_law_ask", "_law_thing", "_law_due", "error", "_law_kinds", "_law_kind"]
theorem sc__law_refused : FnScope ["_law_ask", "_law_thing", "_law_due", "error", "_law_kinds", "_law_kind"] ["_law_ask", "_law_thing", "_law_due"] (defScope s__law_refused) := ⟨rfl, rfl, rfl, by decide +kernel, rfl, by decide +kernel, by decide +kernel⟩
abbrev s__law_great : Stmt := topS 36
abbrev N__law_great : List Str := ["_law_far", "_law_found", "_law_turn"]
theorem sc__law_great : FnScope ["_law_far", "_law_found", "_law_turn"] ["_law_far"] (defScope s__law_great) := ⟨rfl, rfl, rfl, by decide +kernel, rfl, by decide +kernel, by decide +kernel⟩
abbrev s_law : Stmt := topS 37
abbrev N_law : List Str := ["_law_script", "_law_whole", "_law_great_here", "_law_last", "_law_number", "_law_pair", "_law_three", "_law_more", "_law_answer", "_law_place"]
theorem sc_law : FnScope ["_law_script", "_law_whole", "_law_great_here", "_law_last", "_law_number", "_law_pair", "_law_three", "_law_more", "_law_answer", "_law_place"] ["_law_script"] (defScope s_law) := ⟨rfl, rfl, rfl, by decide +kernel, rfl, by decide +kernel, by decide +kernel⟩
/-- what the top has left -/
structure Tx (K : PySem.W.Frag) (mg : Str → Option Value) where
  a_Can_shows : Addr
  d_Can_shows : FuncData
  F_Can_shows : Fun K "shows" "Can.shows" s_Can_shows a_Can_shows d_Can_shows
  b_Can_shows : Binds K d_Can_shows ["self", "last"] []
  a_Barred_shows : Addr
  d_Barred_shows : FuncData
  F_Barred_shows : Fun K "shows" "Barred.shows" s_Barred_shows a_Barred_shows d_Barred_shows
  b_Barred_shows : Binds K d_Barred_shows ["self", "last"] []
  a_is_right : Addr
  d_is_right : FuncData
  F_is_right : Fun K "is_right" "is_right" s_is_right a_is_right d_is_right
  b_is_right : Binds K d_is_right ["row", "number"] []
  g_is_right : mg "is_right" = some (.ref a_is_right)
  a_Good_shows : Addr
  d_Good_shows : FuncData
  F_Good_shows : Fun K "shows" "Good.shows" s_Good_shows a_Good_shows d_Good_shows
  b_Good_shows : Binds K d_Good_shows ["self", "row"] []
  a_Off___init__ : Addr
  d_Off___init__ : FuncData
  F_Off___init__ : Fun K "__init__" "Off.__init__" s_Off___init__ a_Off___init__ d_Off___init__
  b_Off___init__ : Binds K d_Off___init__ ["self", "number"] []
  a_Off_shows : Addr
  d_Off_shows : FuncData
  F_Off_shows : Fun K "shows" "Off.shows" s_Off_shows a_Off_shows d_Off_shows
  b_Off_shows : Binds K d_Off_shows ["self", "row"] []
  a_is_number : Addr
  d_is_number : FuncData
  F_is_number : Fun K "is_number" "is_number" s_is_number a_is_number d_is_number
  b_is_number : Binds K d_is_number ["thing"] []
  g_is_number : mg "is_number" = some (.ref a_is_number)
  a_asked_last : Addr
  d_asked_last : FuncData
  F_asked_last : Fun K "asked_last" "asked_last" s_asked_last a_asked_last d_asked_last
  b_asked_last : Binds K d_asked_last ["last"] []
  g_asked_last : mg "asked_last" = some (.ref a_asked_last)
  a_can : Addr
  d_can : FuncData
  F_can : Fun K "can" "can" s_can a_can d_can
  b_can : Binds K d_can ["last"] []
  g_can : mg "can" = some (.ref a_can)
  a_asked_row : Addr
  d_asked_row : FuncData
  F_asked_row : Fun K "asked_row" "asked_row" s_asked_row a_asked_row d_asked_row
  b_asked_row : Binds K d_asked_row ["last"] []
  g_asked_row : mg "asked_row" = some (.ref a_asked_row)
  a_first_by_fours : Addr
  d_first_by_fours : FuncData
  F_first_by_fours : Fun K "first_by_fours" "first_by_fours" s_first_by_fours a_first_by_fours d_first_by_fours
  b_first_by_fours : Binds K d_first_by_fours ["part", "number"] []
  g_first_by_fours : mg "first_by_fours" = some (.ref a_first_by_fours)
  a_first_by_ones : Addr
  d_first_by_ones : FuncData
  F_first_by_ones : Fun K "first_by_ones" "first_by_ones" s_first_by_ones a_first_by_ones d_first_by_ones
  b_first_by_ones : Binds K d_first_by_ones ["part", "number"] []
  g_first_by_ones : mg "first_by_ones" = some (.ref a_first_by_ones)
  a_first_of : Addr
  d_first_of : FuncData
  F_first_of : Fun K "first_of" "first_of" s_first_of a_first_of d_first_of
  b_first_of : Binds K d_first_of ["last", "number"] []
  g_first_of : mg "first_of" = some (.ref a_first_of)
  a_both : Addr
  d_both : FuncData
  F_both : Fun K "both" "both" s_both a_both d_both
  b_both : Binds K d_both ["last", "number"] []
  g_both : mg "both" = some (.ref a_both)
  a_places_of : Addr
  d_places_of : FuncData
  F_places_of : Fun K "places_of" "places_of" s_places_of a_places_of d_places_of
  b_places_of : Binds K d_places_of ["last", "number"] []
  g_places_of : mg "places_of" = some (.ref a_places_of)
  a_at_place : Addr
  d_at_place : FuncData
  F_at_place : Fun K "at_place" "at_place" s_at_place a_at_place d_at_place
  b_at_place : Binds K d_at_place ["last", "place"] []
  g_at_place : mg "at_place" = some (.ref a_at_place)
  a_number_at : Addr
  d_number_at : FuncData
  F_number_at : Fun K "number_at" "number_at" s_number_at a_number_at d_number_at
  b_number_at : Binds K d_number_at ["last", "place"] []
  g_number_at : mg "number_at" = some (.ref a_number_at)
  a_asked_list : Addr
  d_asked_list : FuncData
  F_asked_list : Fun K "asked_list" "asked_list" s_asked_list a_asked_list d_asked_list
  b_asked_list : Binds K d_asked_list ["row"] []
  g_asked_list : mg "asked_list" = some (.ref a_asked_list)
  a_told : Addr
  d_told : FuncData
  F_told : Fun K "told" "told" s_told a_told d_told
  b_told : Binds K d_told ["row"] []
  g_told : mg "told" = some (.ref a_told)
  a_three_by : Addr
  d_three_by : FuncData
  F_three_by : Fun K "three_by" "three_by" s_three_by a_three_by d_three_by
  b_three_by : Binds K d_three_by ["last", "number"] []
  g_three_by : mg "three_by" = some (.ref a_three_by)
  a_three_of : Addr
  d_three_of : FuncData
  F_three_of : Fun K "three_of" "three_of" s_three_of a_three_of d_three_of
  b_three_of : Binds K d_three_of ["last", "number"] []
  g_three_of : mg "three_of" = some (.ref a_three_of)
  a__law_refused : Addr
  d__law_refused : FuncData
  F__law_refused : Fun K "_law_refused" "_law_refused" s__law_refused a__law_refused d__law_refused
  b__law_refused : Binds K d__law_refused ["_law_ask", "_law_thing", "_law_due"] []
  g__law_refused : mg "_law_refused" = some (.ref a__law_refused)
  a__law_great : Addr
  d__law_great : FuncData
  F__law_great : Fun K "_law_great" "_law_great" s__law_great a__law_great d__law_great
  b__law_great : Binds K d__law_great ["_law_far"] []
  g__law_great : mg "_law_great" = some (.ref a__law_great)
  a_law : Addr
  d_law : FuncData
  F_law : Fun K "law" "law" s_law a_law d_law
  b_law : Binds K d_law ["_law_script"] []
  g_law : mg "law" = some (.ref a_law)
  q_law : Addr
  p_law : Addr
  C_law : FunC K "law" "law" s_law a_law d_law q_law
  c_Answer : Addr
  g_Answer : mg "Answer" = some (.ref c_Answer)
  c_Can : Addr
  g_Can : mg "Can" = some (.ref c_Can)
  n_Can : New0 K c_Can
  i_Can : InsT K c_Can
  s_Can : Meth K c_Can "shows" a_Can_shows
  c_Barred : Addr
  g_Barred : mg "Barred" = some (.ref c_Barred)
  n_Barred : New0 K c_Barred
  i_Barred : InsT K c_Barred
  s_Barred : Meth K c_Barred "shows" a_Barred_shows
  c_Good : Addr
  g_Good : mg "Good" = some (.ref c_Good)
  n_Good : New0 K c_Good
  i_Good : InsT K c_Good
  s_Good : Meth K c_Good "shows" a_Good_shows
  c_Off : Addr
  g_Off : mg "Off" = some (.ref c_Off)
  n_Off : Mk K c_Off a_Off___init__
  na_Off_number : NoAttr K c_Off "number"
  i_Off : InsT K c_Off
  s_Off : Meth K c_Off "shows" a_Off_shows
  c_PairError : Addr
  g_PairError : mg "PairError" = some (.ref c_PairError)
  x_PairError : ExcT K c_PairError
  c_BadLast : Addr
  g_BadLast : mg "BadLast" = some (.ref c_BadLast)
  x_BadLast : ExcT K c_BadLast
  y_BadLast : ExcC K c_BadLast
  em_BadLast : PySem.W.exmOne K (.ref c_BadLast) (.ref c_PairError) = some true
  kv_BadLast : PySem.W.kitOne K (.ref c_BadLast) (.type "ValueError") = some true
  c_BadNumber : Addr
  g_BadNumber : mg "BadNumber" = some (.ref c_BadNumber)
  x_BadNumber : ExcT K c_BadNumber
  y_BadNumber : ExcC K c_BadNumber
  em_BadNumber : PySem.W.exmOne K (.ref c_BadNumber) (.ref c_PairError) = some true
  kv_BadNumber : PySem.W.kitOne K (.ref c_BadNumber) (.type "ValueError") = some true
  c_BadPlace : Addr
  g_BadPlace : mg "BadPlace" = some (.ref c_BadPlace)
  x_BadPlace : ExcT K c_BadPlace
  y_BadPlace : ExcC K c_BadPlace
  em_BadPlace : PySem.W.exmOne K (.ref c_BadPlace) (.ref c_PairError) = some true
  kv_BadPlace : PySem.W.kitOne K (.ref c_BadPlace) (.type "ValueError") = some true
  c_BadRow : Addr
  g_BadRow : mg "BadRow" = some (.ref c_BadRow)
  x_BadRow : ExcT K c_BadRow
  y_BadRow : ExcC K c_BadRow
  em_BadRow : PySem.W.exmOne K (.ref c_BadRow) (.ref c_PairError) = some true
  kv_BadRow : PySem.W.kitOne K (.ref c_BadRow) (.type "ValueError") = some true
  c_NoRow : Addr
  g_NoRow : mg "NoRow" = some (.ref c_NoRow)
  x_NoRow : ExcT K c_NoRow
  y_NoRow : ExcC K c_NoRow
  em_NoRow : PySem.W.exmOne K (.ref c_NoRow) (.ref c_PairError) = some true
  kv_NoRow : PySem.W.kitOne K (.ref c_NoRow) (.type "ValueError") = some true
  c_FIRSTS : Addr
  g_FIRSTS : mg "FIRSTS" = some (.ref c_FIRSTS)
  k_FIRSTS : Firsts K c_FIRSTS
  t_MOST : Tok
  c_MOST : mg "MOST" = some (.int 400 t_MOST)
  m_ValueError : mg "ValueError" = none
  m_abs : mg "abs" = none
  m_all : mg "all" = none
  m_bool : mg "bool" = none
  m_int : mg "int" = none
  m_isinstance : mg "isinstance" = none
  m_len : mg "len" = none
  m_list : mg "list" = none
  m_range : mg "range" = none
  m_sum : mg "sum" = none
  ke_BadLast_BadLast : PySem.W.kitOne K (.ref c_BadLast) (.ref c_BadLast) = some true
  ke_BadLast_BadNumber : PySem.W.kitOne K (.ref c_BadLast) (.ref c_BadNumber) = some false
  ke_BadLast_BadPlace : PySem.W.kitOne K (.ref c_BadLast) (.ref c_BadPlace) = some false
  ke_BadLast_BadRow : PySem.W.kitOne K (.ref c_BadLast) (.ref c_BadRow) = some false
  ke_BadLast_NoRow : PySem.W.kitOne K (.ref c_BadLast) (.ref c_NoRow) = some false
  ke_BadNumber_BadLast : PySem.W.kitOne K (.ref c_BadNumber) (.ref c_BadLast) = some false
  ke_BadNumber_BadNumber : PySem.W.kitOne K (.ref c_BadNumber) (.ref c_BadNumber) = some true
  ke_BadNumber_BadPlace : PySem.W.kitOne K (.ref c_BadNumber) (.ref c_BadPlace) = some false
  ke_BadNumber_BadRow : PySem.W.kitOne K (.ref c_BadNumber) (.ref c_BadRow) = some false
  ke_BadNumber_NoRow : PySem.W.kitOne K (.ref c_BadNumber) (.ref c_NoRow) = some false
  ke_BadPlace_BadLast : PySem.W.kitOne K (.ref c_BadPlace) (.ref c_BadLast) = some false
  ke_BadPlace_BadNumber : PySem.W.kitOne K (.ref c_BadPlace) (.ref c_BadNumber) = some false
  ke_BadPlace_BadPlace : PySem.W.kitOne K (.ref c_BadPlace) (.ref c_BadPlace) = some true
  ke_BadPlace_BadRow : PySem.W.kitOne K (.ref c_BadPlace) (.ref c_BadRow) = some false
  ke_BadPlace_NoRow : PySem.W.kitOne K (.ref c_BadPlace) (.ref c_NoRow) = some false
  ke_BadRow_BadLast : PySem.W.kitOne K (.ref c_BadRow) (.ref c_BadLast) = some false
  ke_BadRow_BadNumber : PySem.W.kitOne K (.ref c_BadRow) (.ref c_BadNumber) = some false
  ke_BadRow_BadPlace : PySem.W.kitOne K (.ref c_BadRow) (.ref c_BadPlace) = some false
  ke_BadRow_BadRow : PySem.W.kitOne K (.ref c_BadRow) (.ref c_BadRow) = some true
  ke_BadRow_NoRow : PySem.W.kitOne K (.ref c_BadRow) (.ref c_NoRow) = some false
  ke_NoRow_BadLast : PySem.W.kitOne K (.ref c_NoRow) (.ref c_BadLast) = some false
  ke_NoRow_BadNumber : PySem.W.kitOne K (.ref c_NoRow) (.ref c_BadNumber) = some false
  ke_NoRow_BadPlace : PySem.W.kitOne K (.ref c_NoRow) (.ref c_BadPlace) = some false
  ke_NoRow_BadRow : PySem.W.kitOne K (.ref c_NoRow) (.ref c_BadRow) = some false
  ke_NoRow_NoRow : PySem.W.kitOne K (.ref c_NoRow) (.ref c_NoRow) = some true
  kit_Can_Answer : PySem.W.kitOne K (.ref c_Can) (.ref c_Answer) = some true
  kit_Can_Can : PySem.W.kitOne K (.ref c_Can) (.ref c_Can) = some true
  kit_Can_Barred : PySem.W.kitOne K (.ref c_Can) (.ref c_Barred) = some false
  kit_Can_Good : PySem.W.kitOne K (.ref c_Can) (.ref c_Good) = some false
  kit_Can_Off : PySem.W.kitOne K (.ref c_Can) (.ref c_Off) = some false
  kit_Barred_Answer : PySem.W.kitOne K (.ref c_Barred) (.ref c_Answer) = some true
  kit_Barred_Can : PySem.W.kitOne K (.ref c_Barred) (.ref c_Can) = some false
  kit_Barred_Barred : PySem.W.kitOne K (.ref c_Barred) (.ref c_Barred) = some true
  kit_Barred_Good : PySem.W.kitOne K (.ref c_Barred) (.ref c_Good) = some false
  kit_Barred_Off : PySem.W.kitOne K (.ref c_Barred) (.ref c_Off) = some false
  kit_Good_Answer : PySem.W.kitOne K (.ref c_Good) (.ref c_Answer) = some true
  kit_Good_Can : PySem.W.kitOne K (.ref c_Good) (.ref c_Can) = some false
  kit_Good_Barred : PySem.W.kitOne K (.ref c_Good) (.ref c_Barred) = some false
  kit_Good_Good : PySem.W.kitOne K (.ref c_Good) (.ref c_Good) = some true
  kit_Good_Off : PySem.W.kitOne K (.ref c_Good) (.ref c_Off) = some false
  kit_Off_Answer : PySem.W.kitOne K (.ref c_Off) (.ref c_Answer) = some true
  kit_Off_Can : PySem.W.kitOne K (.ref c_Off) (.ref c_Can) = some false
  kit_Off_Barred : PySem.W.kitOne K (.ref c_Off) (.ref c_Barred) = some false
  kit_Off_Good : PySem.W.kitOne K (.ref c_Off) (.ref c_Good) = some false
  kit_Off_Off : PySem.W.kitOne K (.ref c_Off) (.ref c_Off) = some true
end PA

set_option Elab.async false
set_option linter.all false
set_option maxRecDepth 100000
set_option maxHeartbeats 4000000
namespace PA
open PySem PySem.Spec PyProof.Rows L2 Evl
/-- the walk through an expression -/
local macro_rules | `(tactic| walk_at "ev") => `(tactic| repeat' (first | (with_reducible exact ev_c) | (with_reducible refine' ev_var ?_) | (show _ = some (some _); rfl) | (with_reducible exact ea_nil) | (with_reducible refine' ea_cons ?_ ?_) | (with_reducible refine' ev_abs ?_) | (with_reducible refine' ev_op ?_ ?_ ?_) | (with_reducible exact rv_I0) | (exact rv_mulL (by decide)) | (exact rv_mulR (by decide)) | (exact rv_div (by decide)) | (exact rv_mod (by decide)) | (exact rv_pow (by decide)) | (with_reducible refine' ev_un ?_ ?_) | (with_reducible exact ru_neg) | (exact rv_eq rfl) | (exact rv_ne rfl) | (with_reducible refine' et_test ?_) | (with_reducible refine' et_B ?_) | (exact ev_c) | (exact rv_I0) | (exact ru_neg) | (exact ea_nil) | (refine' ea_cons ?_ ?_)))
section
variable {P : Program} {w : World} {K : PySem.W.Frag} {mg : Str → Option Value} {base : Heap}
/-! ### is_number -/
def sp_is_number (K : PySem.W.Frag) : Sp := fun vs H Q _ => ∃ v b, vs = [v] ∧ Num K H v b ∧ RetV (.bl b) H Q
theorem kit_num {K : PySem.W.Frag} {T : String} {b : Bool} (h : isNumT T = some b) : ∃ b1, PySem.W.kitOne K (.type T) (.type "int") = some b1 ∧ (b1 = false → b = false) ∧ (b1 = true → PySem.W.kitOne K (.type T) (.type "bool") = some (!b)) := by
  unfold isNumT at h
  split at h
  · rename_i e
    refine ⟨true, kit_ty e, (fun z => nomatch z), fun _ => kit_ty ?_⟩
    cases q : kitB T "bool" with
    | none => rw [q] at h; cases h
    | some c =>
      rw [q] at h
      have h2 : (!c) = b := Option.some.inj h
      rw [← h2, Bool.not_not]
  · rename_i e
    exact ⟨false, kit_ty e, fun _ => (Option.some.inj h).symm, fun z => nomatch z⟩
  · cases h
theorem ok_is_number (T : Tx K mg) : FnOk P w K mg base CX0 1 T.a_is_number T.d_is_number ["thing"] (sp_is_number K) := by
  refine T.F_is_number.ok sc_is_number (fun vs H Q E h => ?_) (fun cdv A outer s H vs Q E hr h => ?_)
  · obtain ⟨v, b, rfl, _⟩ := h
    rfl
  · obtain ⟨v, b, rfl, ⟨ty, ht, hn⟩, k⟩ := h
    refine ⟨_, (pss_one (ps_ret (pe_and (pe_callB (r := rIsi K) call_isi (by rfl) T.m_isinstance bt_isinstance (pa_cons (pv 0) (pa_cons (pe_bltn (v := .ty "int") (by rfl) T.m_int bt_int rfl) pa_nil))) (pe_one (pe_not (pe_callB (r := rIsi K) call_isi (by rfl) T.m_isinstance bt_isinstance (pa_cons (pv 0) (pa_cons (pe_bltn (v := .ty "bool") (by rfl) T.m_bool bt_bool rfl) pa_nil)))))))), ?_⟩
    obtain ⟨b1, h1, h2, h3⟩ := kit_num (K := K) hn
    have e : (b1 && !(!b)) = b := by
      cases b1 with
      | true => simp
      | false => rw [h2 rfl]; rfl
    refine s_ret (v := .bl b) (ev_is (v := .bl (b1 && !(!b))) (ev_andV (ev_isi (ea_cons (ev_var rfl) (ea_cons ev_c ea_nil)) (.ty "int") ht h1) fun z => ev_notV (ev_isi (ea_cons (ev_var rfl) (ea_cons ev_c ea_nil)) (.ty "bool") ht (h3 z))) (by rw [e])) k
theorem v_is_number {v : V} {b : Bool} {H : Hp} (h : Num K H v b) : SpV (sp_is_number K) [v] H (.bl b) := fun _ e _ q _ => ⟨v, b, rfl, h.ex e, q⟩
/-! ### asked_last -/
/-- no whole number, or one of which B holds -/
def BadV (K : PySem.W.Frag) (H : Hp) (v : V) (B : Int → Prop) : Prop := Num K H v false ∨ ∃ n, v = .int n ∧ B n
theorem BadV.ex {H H' : Hp} {v : V} {B : Int → Prop} (e : Ex H H') (h : BadV K H v B) : BadV K H' v B := by
  rcases h with h | h
  · exact .inl (h.ex e)
  · exact .inr h
/-- an error of the class at C leaves -/
def Err (C : Addr) (H : Hp) (E : XK) : Prop := ∀ H', Ex H H' → E (.ref C) none H'
theorem Err.ex {C : Addr} {H H' : Hp} {E : XK} (e : Ex H H') (h : Err C H E) : Err C H' E := fun H2 e2 => h H2 (e.trans e2)
def sp_asked_last (T : Tx K mg) : Sp := fun vs H Q E => ∃ v, vs = [v] ∧ ((∃ n, v = .int n ∧ 1 ≤ n ∧ RetV .non H Q) ∨ (BadV K H v (· < 1) ∧ Err T.c_BadLast H E))
theorem ok_asked_last (T : Tx K mg) : FnOk P w K mg base (L2N.CX P w) 2 T.a_asked_last T.d_asked_last ["last"] (sp_asked_last T) := by
  refine okXN T.F_asked_last sc_asked_last (fun vs H Q E h => ?_) (fun cdv A outer s H vs Q E hr h => ?_)
  · obtain ⟨v, rfl, _⟩ := h
    rfl
  · obtain ⟨v, rfl, h⟩ := h
    refine ⟨_, (pss_one (ps_if (PW.pt (pw_or (pt_not (pt_val (pe_call (ok_is_number T) (hr.mono (by decide)) (by rfl) T.g_is_number T.F_is_number.kp T.b_is_number .nil pass0 (pa_cons (pv 0) pa_nil)))) (pw_or1 (pt_cmpR op_lt (pv 0) pe_int (nomark _))))) (pss_one (L2N.ps_raise rfl (L2N.takes_of rfl rfl rfl rfl) (L2N.pmk_own PySem.F.excBase_ValueError T.x_BadLast.ex T.g_BadLast T.x_BadLast.kp (raises_own T.x_BadLast.sb T.x_BadLast.ty) (by rfl)))) pss_nil)), ?_⟩
    rcases h with ⟨n, rfl, hn, k⟩ | ⟨hb, k⟩
    · refine s_when (b := false) (et_is (et_or (et_not (et_B (ev_call (ea_cons (ev_var rfl) ea_nil) (v_is_number (Num.int n))))) fun _ => et_test (ev_op (ev_var rfl) ev_c rv_I0)) ?_) (fun z => nomatch z) fun _ H1 e1 => k H1 e1
      simp only [Bool.not_true, Bool.false_or, decide_eq_false_iff_not]
      omega
    · rcases hb with hb | ⟨n, rfl, hn⟩
      · exact s_when (b := true) (et_is (a := !false || true) (et_or (et_not (et_B (ev_call (ea_cons (ev_var rfl) ea_nil) (v_is_number hb)))) fun z => nomatch z) rfl) (fun _ H1 e1 => k H1 e1) (fun z => nomatch z)
      · refine s_when (b := true) (et_is (et_or (et_not (et_B (ev_call (ea_cons (ev_var rfl) ea_nil) (v_is_number (Num.int n))))) fun _ => et_test (ev_op (ev_var rfl) ev_c rv_I0)) ?_) (fun _ H1 e1 => k H1 e1) (fun z => nomatch z)
        simp only [Bool.not_true, Bool.false_or, decide_eq_true_eq]
        exact hn
theorem v_asked_last {T : Tx K mg} {n : Int} {H : Hp} (h : 1 ≤ n) : SpV (sp_asked_last T) [.int n] H .non := fun _ _ _ q _ => ⟨_, rfl, .inl ⟨n, rfl, h, q⟩⟩
/-! ### asked_row -/
/-- what is wrong with a last number -/
def LastX (T : Tx K mg) (v : V) (H : Hp) (E : XK) : Prop := (BadV K H v (· < 1) ∧ Err T.c_BadLast H E) ∨ ∃ n, v = .int n ∧ 1 ≤ n ∧ 1 < n % 4 ∧ Err T.c_NoRow H E
theorem LastX.ex {T : Tx K mg} {v : V} {H H' : Hp} {E : XK} (e : Ex H H') (h : LastX T v H E) : LastX T v H' E := by
  rcases h with ⟨a, b⟩ | ⟨n, a, b, c, d⟩
  · exact .inl ⟨a.ex e, b.ex e⟩
  · exact .inr ⟨n, a, b, c, d.ex e⟩
def sp_asked_row (T : Tx K mg) : Sp := fun vs H Q E => ∃ v, vs = [v] ∧ ((∃ n, v = .int n ∧ Can n ∧ RetV .non H Q) ∨ LastX T v H E)
theorem ok_asked_row (T : Tx K mg) : FnOk P w K mg base (L2N.CX P w) 3 T.a_asked_row T.d_asked_row ["last"] (sp_asked_row T) := by
  refine okXN T.F_asked_row sc_asked_row (fun vs H Q E h => ?_) (fun cdv A outer s H vs Q E hr h => ?_)
  · obtain ⟨v, rfl, _⟩ := h
    rfl
  · obtain ⟨v, rfl, h⟩ := h
    refine ⟨_, (pss_cons (ps_expr (pe_call (ok_asked_last T) (hr.mono (by decide)) (by rfl) T.g_asked_last T.F_asked_last.kp T.b_asked_last .nil (L2N.passes_call (L2N.takes_of rfl rfl rfl rfl) (fun _ _ _ _ h => h)) (pa_cons (pv 0) pa_nil)))
      (pss_one (ps_if (pt_cmpR op_gt (pe_op op_mod (pv 0) pe_int) pe_int (nomark _)) (pss_one (L2N.ps_raise rfl (L2N.takes_of rfl rfl rfl rfl) (L2N.pmk_own PySem.F.excBase_ValueError T.x_NoRow.ex T.g_NoRow T.x_NoRow.kp (raises_own T.x_NoRow.sb T.x_NoRow.ty) (by rfl)))) pss_nil))), ?_⟩
    rcases h with ⟨n, rfl, hn, k⟩ | ⟨hb, k⟩ | ⟨n, rfl, h1, h4, k⟩
    · refine q_drop (ev_call (ea_cons (ev_var rfl) ea_nil) (v_asked_last (T := T) hn.1)) fun H1 e1 => ?_
      refine s_when (b := false) (et_is (b := false) (by walk_at "ev") ?_) (fun z => nomatch z) fun _ H2 e2 => k H2 (e1.trans e2)
      have := hn.2
      simp only [decide_eq_false_iff_not]
      omega
    · exact ⟨_, rfl, _, rfl, .inr ⟨hb, k⟩⟩
    · refine q_drop (ev_call (ea_cons (ev_var rfl) ea_nil) (v_asked_last (T := T) h1)) fun H1 e1 => ?_
      refine s_when (b := true) (et_is (b := true) (by walk_at "ev") ?_) (fun _ H2 e2 => k H2 (e1.trans e2)) (fun z => nomatch z)
      simp only [decide_eq_true_eq]
      exact h4
/-! ### first_by_fours, first_by_ones -/
def sp_first_by_fours : Sp := fun vs H Q _ => ∃ p n : Int, vs = [.int p, .int n] ∧ 2 ≤ p ∧ RetV (.int (f4 p n)) H Q
def tab4 (p : Int) : List (Key × V) := mergeK [] [(Sum.inl (4 * p - 1), .int (2 * p + 1)), (Sum.inl 1, .int p), (Sum.inl (2 * p + 1), .int (p - 1)), (Sum.inl (2 * p - 1), .int (2 * p))]
def tab1 (p : Int) : List (Key × V) := mergeK [] [(Sum.inl (4 * p + 1), .int (2 * p + 1)), (Sum.inl 1, .int (p + 1)), (Sum.inl (2 * p - 1), .int (2 * p + 2))]
theorem key_ne {a b : Int} (h : a ≠ b) : ¬ (Sum.inl a : Key) = Sum.inl b := fun z => h (Sum.inl.inj z)
theorem tab4_val (p n : Int) (hp : 2 ≤ p) (ho : n % 2 ≠ 0) : (valV (tab4 p) (Sum.inl n) = some (.int (f4 p n))) ∨ (valV (tab4 p) (Sum.inl n) = none ∧ f4 p n = if 2 * p + 1 < n then (4 * p - 1 - n) / 2 else p + 1 + (2 * p - 1 - n) / 2) := by
  have e : valV (tab4 p) (Sum.inl n) = if (Sum.inl n : Key) = Sum.inl (2 * p - 1) then some (.int (2 * p)) else if (Sum.inl n : Key) = Sum.inl (2 * p + 1) then some (.int (p - 1)) else if (Sum.inl n : Key) = Sum.inl 1 then some (.int p) else if (Sum.inl n : Key) = Sum.inl (4 * p - 1) then some (.int (2 * p + 1)) else none := by
    show valV (putK (putK (putK (putK [] _ _) _ _) _ _) _ _) _ = _
    rw [valV_put, valV_put, valV_put, valV_put]
    rfl
  rw [e]
  unfold f4
  rw [if_neg ho]
  by_cases b : n = 4 * p - 1
  · rw [if_pos b, if_neg (key_ne (by omega)), if_neg (key_ne (by omega)), if_neg (key_ne (by omega)), if_pos (by rw [b])]
    exact .inl rfl
  rw [if_neg b]
  by_cases c : n = 1
  · rw [if_pos c, if_neg (key_ne (by omega)), if_neg (key_ne (by omega)), if_pos (by rw [c])]
    exact .inl rfl
  rw [if_neg c]
  by_cases d : n = 2 * p + 1
  · rw [if_pos d, if_neg (key_ne (by omega)), if_pos (by rw [d])]
    exact .inl rfl
  rw [if_neg d]
  by_cases f : n = 2 * p - 1
  · rw [if_pos f, if_pos (by rw [f])]
    exact .inl rfl
  rw [if_neg f, if_neg (key_ne f), if_neg (key_ne d), if_neg (key_ne c), if_neg (key_ne b)]
  exact .inr ⟨rfl, rfl⟩
theorem tab1_val (p n : Int) (hp : 2 ≤ p) (ho : n % 2 ≠ 0) : (valV (tab1 p) (Sum.inl n) = some (.int (f1 p n))) ∨ (valV (tab1 p) (Sum.inl n) = none ∧ f1 p n = if 2 * p < n then (4 * p + 1 - n) / 2 else p + 2 + (2 * p - 1 - n) / 2) := by
  have e : valV (tab1 p) (Sum.inl n) = if (Sum.inl n : Key) = Sum.inl (2 * p - 1) then some (.int (2 * p + 2)) else if (Sum.inl n : Key) = Sum.inl 1 then some (.int (p + 1)) else if (Sum.inl n : Key) = Sum.inl (4 * p + 1) then some (.int (2 * p + 1)) else none := by
    show valV (putK (putK (putK [] _ _) _ _) _ _) _ = _
    rw [valV_put, valV_put, valV_put]
    rfl
  rw [e]
  unfold f1
  rw [if_neg ho]
  by_cases b : n = 4 * p + 1
  · rw [if_pos b, if_neg (key_ne (by omega)), if_neg (key_ne (by omega)), if_pos (by rw [b])]
    exact .inl rfl
  rw [if_neg b]
  by_cases c : n = 1
  · rw [if_pos c, if_neg (key_ne (by omega)), if_pos (by rw [c])]
    exact .inl rfl
  rw [if_neg c]
  by_cases f : n = 2 * p - 1
  · rw [if_pos f, if_pos (by rw [f])]
    exact .inl rfl
  rw [if_neg f, if_neg (key_ne f), if_neg (key_ne c), if_neg (key_ne b)]
  exact .inr ⟨rfl, rfl⟩
theorem ok_first_by_fours (T : Tx K mg) : FnOk P w K mg base CX0 1 T.a_first_by_fours T.d_first_by_fours ["part", "number"] sp_first_by_fours := by
  refine T.F_first_by_fours.ok sc_first_by_fours (fun vs H Q E h => ?_) (fun cdv A outer s H vs Q E hr h => ?_)
  · obtain ⟨p, n, rfl, _⟩ := h
    rfl
  · obtain ⟨p, n, rfl, hp, k⟩ := h
    have hu := hu_of hr
    refine ⟨_, (pss_cons (ps_if (pt_cmpR op_eq (pe_op op_mod (pv 1) pe_int) pe_int (nomark _)) (pss_one (ps_ret (pe_op op_sub (pe_op op_mul pe_int (pv 0)) (pe_op op_fdiv (pv 1) pe_int)))) pss_nil)
      (pss_cons (ps_set (i := 2) sc_first_by_fours.nd rfl (.inl rfl) (pe_disp (pps_cons (pe_op op_sub (pe_op op_mul pe_int (pv 0)) pe_int) (pe_op op_add (pe_op op_mul pe_int (pv 0)) pe_int) (pps_cons pe_int (pv 0) (pps_cons (pe_op op_add (pe_op op_mul pe_int (pv 0)) pe_int) (pe_op op_sub (pv 0) pe_int) (pps_cons (pe_op op_sub (pe_op op_mul pe_int (pv 0)) pe_int) (pe_op op_mul pe_int (pv 0)) pps_nil)))) (by rfl) (by rfl) (fun z => by cases z) (by decide)))
      (pss_cons (ps_if (pt_cmp (pc_din hu (pv 1) (pv 2))) (pss_one (ps_ret (pe_dget hu (pv 2) (pv 1) (fun _ _ => rfl)))) pss_nil)
      (pss_cons (ps_if (pt_cmpR op_gt (pv 1) (pe_op op_add (pe_op op_mul pe_int (pv 0)) pe_int) (nomark _)) (pss_one (ps_ret (pe_op op_fdiv (pe_op op_sub (pe_op op_sub (pe_op op_mul pe_int (pv 0)) pe_int) (pv 1)) pe_int))) pss_nil)
      (pss_one (ps_ret (pe_op op_add (pe_op op_add (pv 0) pe_int) (pe_op op_fdiv (pe_op op_sub (pe_op op_sub (pe_op op_mul pe_int (pv 0)) pe_int) (pv 1)) pe_int)))))))), ?_⟩
    refine q_when (by walk_at "ev") (fun z H1 e1 => ?_) fun z H1 e1 => ?_
    · have z0 : n % 2 = 0 := V.int.inj (of_decide_eq_true z)
      have e : f4 p n = 6 * p - n / 2 := if_pos z0
      rw [e] at k
      exact s_ret (by walk_at "ev") fun H2 e2 => k H2 (e1.trans e2)
    · have ho : n % 2 ≠ 0 := fun y => (of_decide_eq_false z) (by rw [y])
      refine q_asgD (kvs := [(Sum.inl (4 * p - 1), .int (2 * p + 1)), (Sum.inl 1, .int p), (Sum.inl (2 * p + 1), .int (p - 1)), (Sum.inl (2 * p - 1), .int (2 * p))]) (ep_cons (by walk_at "ev") (by walk_at "ev") (ep_cons (by walk_at "ev") (by walk_at "ev") (ep_cons (by walk_at "ev") (by walk_at "ev") (ep_cons (by walk_at "ev") (by walk_at "ev") ep_nil)))) (show 4 ≤ 15 by decide) fun d H2 hd e2 h2 => ?_
      have h2 : H2 d = some (.dK (tab4 p)) := h2
      rcases tab4_val p n hp ho with hv | ⟨hv, ef⟩
      · refine q_when (b := true) (et_is (et_din h2 (ev_var rfl) (ev_var rfl)) (by rw [hv] <;> rfl)) (fun _ H3 e3 => s_ret (ev_dget (e3 _ _ h2) (ev_var rfl) (ev_var rfl) hv) fun H4 e4 => k H4 (((e1.trans e2).trans e3).trans e4)) (fun z => nomatch z)
      · refine q_when (b := false) (et_is (et_din h2 (ev_var rfl) (ev_var rfl)) (by rw [hv] <;> rfl)) (fun z => nomatch z) fun _ H3 e3 => ?_
        rw [ef] at k
        refine q_when (by walk_at "ev") (fun z H4 e4 => ?_) fun z H4 e4 => ?_
        · rw [if_pos (of_decide_eq_true z)] at k
          exact s_ret (by walk_at "ev") fun H5 e5 => k H5 ((((e1.trans e2).trans e3).trans e4).trans e5)
        · rw [if_neg (of_decide_eq_false z)] at k
          exact s_ret (by walk_at "ev") fun H5 e5 => k H5 ((((e1.trans e2).trans e3).trans e4).trans e5)
theorem v_first_by_fours {p n : Int} {H : Hp} (h : 2 ≤ p) : SpV sp_first_by_fours [.int p, .int n] H (.int (f4 p n)) := fun _ _ _ q _ => ⟨p, n, rfl, h, q⟩
def sp_first_by_ones : Sp := fun vs H Q _ => ∃ p n : Int, vs = [.int p, .int n] ∧ 2 ≤ p ∧ RetV (.int (f1 p n)) H Q
theorem ok_first_by_ones (T : Tx K mg) : FnOk P w K mg base CX0 1 T.a_first_by_ones T.d_first_by_ones ["part", "number"] sp_first_by_ones := by
  refine T.F_first_by_ones.ok sc_first_by_ones (fun vs H Q E h => ?_) (fun cdv A outer s H vs Q E hr h => ?_)
  · obtain ⟨p, n, rfl, _⟩ := h
    rfl
  · obtain ⟨p, n, rfl, hp, k⟩ := h
    have hu := hu_of hr
    refine ⟨_, (pss_cons (ps_if (pt_cmpR op_eq (pe_op op_mod (pv 1) pe_int) pe_int (nomark _)) (pss_one (ps_ret (pe_op op_sub (pe_op op_add (pe_op op_mul pe_int (pv 0)) pe_int) (pe_op op_fdiv (pv 1) pe_int)))) pss_nil)
      (pss_cons (ps_set (i := 2) sc_first_by_ones.nd rfl (.inl rfl) (pe_disp (pps_cons (pe_op op_add (pe_op op_mul pe_int (pv 0)) pe_int) (pe_op op_add (pe_op op_mul pe_int (pv 0)) pe_int) (pps_cons pe_int (pe_op op_add (pv 0) pe_int) (pps_cons (pe_op op_sub (pe_op op_mul pe_int (pv 0)) pe_int) (pe_op op_add (pe_op op_mul pe_int (pv 0)) pe_int) pps_nil))) (by rfl) (by rfl) (fun z => by cases z) (by decide)))
      (pss_cons (ps_if (pt_cmp (pc_din hu (pv 1) (pv 2))) (pss_one (ps_ret (pe_dget hu (pv 2) (pv 1) (fun _ _ => rfl)))) pss_nil)
      (pss_cons (ps_if (pt_cmpR op_gt (pv 1) (pe_op op_mul pe_int (pv 0)) (nomark _)) (pss_one (ps_ret (pe_op op_fdiv (pe_op op_sub (pe_op op_add (pe_op op_mul pe_int (pv 0)) pe_int) (pv 1)) pe_int))) pss_nil)
      (pss_one (ps_ret (pe_op op_add (pe_op op_add (pv 0) pe_int) (pe_op op_fdiv (pe_op op_sub (pe_op op_sub (pe_op op_mul pe_int (pv 0)) pe_int) (pv 1)) pe_int)))))))), ?_⟩
    refine q_when (by walk_at "ev") (fun z H1 e1 => ?_) fun z H1 e1 => ?_
    · have z0 : n % 2 = 0 := V.int.inj (of_decide_eq_true z)
      have e : f1 p n = 6 * p + 2 - n / 2 := if_pos z0
      rw [e] at k
      exact s_ret (by walk_at "ev") fun H2 e2 => k H2 (e1.trans e2)
    · have ho : n % 2 ≠ 0 := fun y => (of_decide_eq_false z) (by rw [y])
      refine q_asgD (kvs := [(Sum.inl (4 * p + 1), .int (2 * p + 1)), (Sum.inl 1, .int (p + 1)), (Sum.inl (2 * p - 1), .int (2 * p + 2))]) (ep_cons (by walk_at "ev") (by walk_at "ev") (ep_cons (by walk_at "ev") (by walk_at "ev") (ep_cons (by walk_at "ev") (by walk_at "ev") ep_nil))) (show 3 ≤ 15 by decide) fun d H2 hd e2 h2 => ?_
      have h2 : H2 d = some (.dK (tab1 p)) := h2
      rcases tab1_val p n hp ho with hv | ⟨hv, ef⟩
      · refine q_when (b := true) (et_is (et_din h2 (ev_var rfl) (ev_var rfl)) (by rw [hv] <;> rfl)) (fun _ H3 e3 => s_ret (ev_dget (e3 _ _ h2) (ev_var rfl) (ev_var rfl) hv) fun H4 e4 => k H4 (((e1.trans e2).trans e3).trans e4)) (fun z => nomatch z)
      · refine q_when (b := false) (et_is (et_din h2 (ev_var rfl) (ev_var rfl)) (by rw [hv] <;> rfl)) (fun z => nomatch z) fun _ H3 e3 => ?_
        rw [ef] at k
        refine q_when (by walk_at "ev") (fun z H4 e4 => ?_) fun z H4 e4 => ?_
        · rw [if_pos (of_decide_eq_true z)] at k
          exact s_ret (by walk_at "ev") fun H5 e5 => k H5 ((((e1.trans e2).trans e3).trans e4).trans e5)
        · rw [if_neg (of_decide_eq_false z)] at k
          exact s_ret (by walk_at "ev") fun H5 e5 => k H5 ((((e1.trans e2).trans e3).trans e4).trans e5)
theorem v_first_by_ones {p n : Int} {H : Hp} (h : 2 ≤ p) : SpV sp_first_by_ones [.int p, .int n] H (.int (f1 p n)) := fun _ _ _ q _ => ⟨p, n, rfl, h, q⟩
/-! ### first_of, both -/
def sp_first_of : Sp := fun vs H Q _ => ∃ l n : Int, vs = [.int l, .int n] ∧ Can l ∧ 1 ≤ n ∧ n ≤ l ∧ RetV (.int (fst l n)) H Q
theorem small_at {l n : Int} (hl : l = 1 ∨ l = 4 ∨ l = 5) (h1 : 1 ≤ n) (h2 : n ≤ l) : atI ((small l).map V.int) (n - 1) = some (.int ((small l).getD (n - 1).toNat 0)) := by
  have hlen : (n - 1).toNat < (small l).length := by
    rcases hl with rfl | rfl | rfl
    · show _ < 1; omega
    · show _ < 4; omega
    · show _ < 5; omega
  refine at_of (j := (n - 1).toNat) (by omega) ?_
  rw [List.getElem?_map, List.getElem?_eq_getElem hlen, List.getD_eq_getElem?_getD, List.getElem?_eq_getElem hlen]
  rfl
theorem ok_first_of (T : Tx K mg) : FnOk P w K mg base CX0 2 T.a_first_of T.d_first_of ["last", "number"] sp_first_of := by
  refine T.F_first_of.ok sc_first_of (fun vs H Q E h => ?_) (fun cdv A outer s H vs Q E hr h => ?_)
  · obtain ⟨l, n, rfl, _⟩ := h
    rfl
  · obtain ⟨l, n, rfl, hl, h1, h2, k⟩ := h
    refine ⟨_, (pss_cons (ps_if (pt_cmpR op_lt (pv 0) pe_int (nomark _)) (pss_one (ps_ret (pe_op op_sub (pe_ix (r := rIxT K) ix_tup (pe_ix (r := rIxI K) ix_kint (pe_glob (v := .ref T.c_FIRSTS) (by rfl) T.g_FIRSTS rfl) (pv 0) (fun _ _ => rfl)) (pe_op op_sub (pv 1) pe_int) (fun _ _ => rfl)) pe_int))) pss_nil)
      (pss_cons (ps_if (pt_cmpR op_eq (pe_op op_mod (pv 0) pe_int) pe_int (nomark _)) (pss_one (ps_ret (pe_op op_sub (pe_call (ok_first_by_fours T) (hr.mono (by decide)) (by rfl) T.g_first_by_fours T.F_first_by_fours.kp T.b_first_by_fours .nil pass0 (pa_cons (pe_op op_fdiv (pv 0) pe_int) (pa_cons (pv 1) pa_nil))) pe_int))) pss_nil)
      (pss_one (ps_ret (pe_op op_sub (pe_call (ok_first_by_ones T) (hr.mono (by decide)) (by rfl) T.g_first_by_ones T.F_first_by_ones.kp T.b_first_by_ones .nil pass0 (pa_cons (pe_op op_fdiv (pv 0) pe_int) (pa_cons (pv 1) pa_nil))) pe_int))))), ?_⟩
    unfold fst at k
    refine q_when (by walk_at "ev") (fun z H1 e1 => ?_) fun z H1 e1 => ?_
    · have z0 : l < 6 := of_decide_eq_true z
      rw [if_pos z0] at k
      have hs : l = 1 ∨ l = 4 ∨ l = 5 := by
        have := hl.1
        have := hl.2
        omega
      obtain ⟨a, ha, ht⟩ := T.k_FIRSTS l hs
      exact s_ret (ev_op (ev_op (ev_op ev_c (ev_var rfl) (rv_kint ha)) (by walk_at "ev") (rv_ixT (ht H1) (small_at hs h1 h2))) ev_c rv_I0) fun H2 e2 => k H2 (e1.trans e2)
    · have z0 : ¬ l < 6 := of_decide_eq_false z
      rw [if_neg z0] at k
      have := hl.2
      refine q_when (by walk_at "ev") (fun z H2 e2 => ?_) fun z H2 e2 => ?_
      · rw [if_pos (V.int.inj (of_decide_eq_true z))] at k
        exact s_ret (ev_op (ev_call (vs := [.int (l / 4), .int n]) (by walk_at "ev") (v_first_by_fours (by omega))) ev_c rv_I0) fun H3 e3 => k H3 ((e1.trans e2).trans e3)
      · rw [if_neg (fun y => (of_decide_eq_false z) (by rw [y]))] at k
        exact s_ret (ev_op (ev_call (vs := [.int (l / 4), .int n]) (by walk_at "ev") (v_first_by_ones (by omega))) ev_c rv_I0) fun H3 e3 => k H3 ((e1.trans e2).trans e3)
theorem v_first_of {l n : Int} {H : Hp} (h : Can l) (h1 : 1 ≤ n) (h2 : n ≤ l) : SpV sp_first_of [.int l, .int n] H (.int (fst l n)) := fun _ _ _ q _ => ⟨l, n, rfl, h, h1, h2, q⟩
def sp_both : Sp := fun vs H Q _ => ∃ l n : Int, vs = [.int l, .int n] ∧ Can l ∧ 1 ≤ n ∧ n ≤ l ∧ RetU [.int (fst l n), .int (fst l n + n)] H Q
theorem ok_both (T : Tx K mg) : FnOk P w K mg base CX0 3 T.a_both T.d_both ["last", "number"] sp_both := by
  refine T.F_both.ok sc_both (fun vs H Q E h => ?_) (fun cdv A outer s H vs Q E hr h => ?_)
  · obtain ⟨l, n, rfl, _⟩ := h
    rfl
  · obtain ⟨l, n, rfl, hl, h1, h2, k⟩ := h
    refine ⟨_, (pss_cons (ps_set (i := 2) sc_both.nd rfl (.inl rfl) (pe_call (ok_first_of T) (hr.mono (by decide)) (by rfl) T.g_first_of T.F_first_of.kp T.b_first_of .nil pass0 (pa_cons (pv 0) (pa_cons (pv 1) pa_nil))))
      (pss_one (ps_ret (pe_tup (pa_cons (pv 2) (pa_cons (pe_op op_add (pv 2) (pv 1)) pa_nil)))))), ?_⟩
    refine q_asg (ev_call (by walk_at "ev") (v_first_of hl h1 h2)) fun H1 e1 => ?_
    exact s_retU (eu_tup (by walk_at "ev") (by show 2 ≤ 100000; decide)) fun p H2 hp e2 h2 => k.go e1 hp e2 h2
theorem v_both {l n : Int} {H : Hp} (h : Can l) (h1 : 1 ≤ n) (h2 : n ≤ l) : SpU sp_both [.int l, .int n] H [.int (fst l n), .int (fst l n + n)] := fun _ _ _ q _ => ⟨l, n, rfl, h, h1, h2, q⟩
/-! ### places_of -/
theorem v_asked_row {T : Tx K mg} {n : Int} {H : Hp} (h : Can n) : SpV (sp_asked_row T) [.int n] H .non := fun _ _ _ q _ => ⟨_, rfl, .inl ⟨n, rfl, h, q⟩⟩
def sp_places_of (T : Tx K mg) : Sp := fun vs H Q E => ∃ v u, vs = [v, u] ∧ ((∃ l n : Int, v = .int l ∧ u = .int n ∧ Can l ∧ 1 ≤ n ∧ n ≤ l ∧ RetU [.int (fst l n), .int (fst l n + n)] H Q) ∨ LastX T v H E ∨
  ∃ l : Int, v = .int l ∧ Can l ∧ BadV K H u (fun n => n < 1 ∨ l < n) ∧ Err T.c_BadNumber H E)
theorem ok_places_of (T : Tx K mg) : FnOk P w K mg base (L2N.CX P w) 4 T.a_places_of T.d_places_of ["last", "number"] (sp_places_of T) := by
  refine okXN T.F_places_of sc_places_of (fun vs H Q E h => ?_) (fun cdv A outer s H vs Q E hr h => ?_)
  · obtain ⟨v, u, rfl, _⟩ := h
    rfl
  · obtain ⟨v, u, rfl, h⟩ := h
    refine ⟨_, (pss_cons (ps_expr (pe_call (ok_asked_row T) (hr.mono (by decide)) (by rfl) T.g_asked_row T.F_asked_row.kp T.b_asked_row .nil (L2N.passes_call (L2N.takes_of rfl rfl rfl rfl) (fun _ _ _ _ h => h)) (pa_cons (pv 0) pa_nil)))
      (pss_cons (ps_if (PW.pt (pw_or (pt_not (pt_val (pe_call (ok_is_number T) (hr.mono (by decide)) (by rfl) T.g_is_number T.F_is_number.kp T.b_is_number .nil pass0 (pa_cons (pv 1) pa_nil)))) (pw_or1 (pt_not (pt_chain op_le op_le pe_int (pv 1) (pv 0)))))) (pss_one (L2N.ps_raise rfl (L2N.takes_of rfl rfl rfl rfl) (L2N.pmk_own PySem.F.excBase_ValueError T.x_BadNumber.ex T.g_BadNumber T.x_BadNumber.kp (raises_own T.x_BadNumber.sb T.x_BadNumber.ty) (by rfl)))) pss_nil)
      (pss_one (ps_ret (pe_call (ok_both T) (hr.mono (by decide)) (by rfl) T.g_both T.F_both.kp T.b_both .nil pass0 (pa_cons (pv 0) (pa_cons (pv 1) pa_nil))))))), ?_⟩
    rcases h with ⟨l, n, rfl, rfl, hl, h1, h2, k⟩ | hx | ⟨l, rfl, hl, hb, k⟩
    · refine q_drop (ev_call (ea_cons (ev_var rfl) ea_nil) (v_asked_row (T := T) hl)) fun H1 e1 => ?_
      refine q_when (b := false) (et_is (et_or (et_not (et_B (ev_call (ea_cons (ev_var rfl) ea_nil) (v_is_number (Num.int n))))) fun _ => et_not (et_test (ev_chain ev_c (ev_var rfl) rv_I0 (fun _ => ev_var rfl) fun _ => rv_I0))) ?_) (fun z => nomatch z) fun _ H2 e2 => ?_
      · rw [decide_eq_true h1, decide_eq_true h2]
        rfl
      · exact s_retU (eu_call (by walk_at "ev") (v_both hl h1 h2)) fun p H3 hp e3 h3 => k.go (e1.trans e2) hp e3 h3
    · exact ⟨_, rfl, _, rfl, .inr hx⟩
    · refine q_drop (ev_call (ea_cons (ev_var rfl) ea_nil) (v_asked_row (T := T) hl)) fun H1 e1 => ?_
      rcases hb with hb | ⟨n, rfl, hn⟩
      · exact q_when (b := true) (et_is (a := !false || true) (et_or (et_not (et_B (ev_call (ea_cons (ev_var rfl) ea_nil) (v_is_number (hb.ex e1))))) fun z => nomatch z) rfl) (fun _ H2 e2 => k H2 (e1.trans e2)) (fun z => nomatch z)
      · refine q_when (b := true) (et_is (et_or (et_not (et_B (ev_call (ea_cons (ev_var rfl) ea_nil) (v_is_number (Num.int n))))) fun _ => et_not (et_test (ev_chain ev_c (ev_var rfl) rv_I0 (fun _ => ev_var rfl) fun _ => rv_I0))) ?_) (fun _ H2 e2 => k H2 (e1.trans e2)) (fun z => nomatch z)
        simp only [Bool.not_true, Bool.false_or, Bool.not_eq_true', Bool.and_eq_false_iff, decide_eq_false_iff_not]
        omega
theorem v_places_of {T : Tx K mg} {l n : Int} {H : Hp} (h : Can l) (h1 : 1 ≤ n) (h2 : n ≤ l) : SpU (sp_places_of T) [.int l, .int n] H [.int (fst l n), .int (fst l n + n)] := fun _ _ _ q _ => ⟨_, _, rfl, .inl ⟨l, n, rfl, rfl, h, h1, h2, q⟩⟩
/-! ### at_place -/
def sp_at_place : Sp := fun vs H Q _ => ∃ l q : Int, vs = [.int l, .int q] ∧ Can l ∧ 0 ≤ q ∧ q < 2 * l ∧ RetV (.int (num l q)) H Q
theorem et_cand {T : Tx K mg} {σ : L2.St} {H : Hp} {l q n : Int} {E : XK} (hl : Can l) (h0 : σ[0]? = some (some (.int l))) (h1 : σ[1]? = some (some (.int q))) (h7 : σ[7]? = some (some (.int n))) :
    EvT (tAnd (tTest (tChain (rI0 fun i j => .bl (decide (i ≤ j))) (rI0 fun i j => .bl (decide (i ≤ j))) (tC (.int 1)) (tVar 7) (tVar 0))) (tTest (tOp (rIn K false) (tVar 1) (tCall sp_both [] E (tCons (tVar 0) (tCons (tVar 7) tNil)))))) σ H (decide (At l q n)) := by
  by_cases hn : 1 ≤ n ∧ n ≤ l
  · refine et_is (et_and (et_test (ev_chain ev_c (ev_var h7) rv_I0 (fun _ => ev_var h0) fun _ => rv_I0)) fun _ => et_test (ev_inU (ev_var h1) (eu_call (ea_cons (ev_var h0) (ea_cons (ev_var h7) ea_nil)) (v_both hl hn.1 hn.2)) rfl rfl)) ?_
    rw [inV_pair, decide_eq_true hn.1, decide_eq_true hn.2]
    show decide _ = decide _
    refine decide_eq_decide.mpr ⟨fun z => ⟨hn, z⟩, fun z => z.2⟩
  · refine et_is (et_and (b := true) (et_test (ev_chain ev_c (ev_var h7) rv_I0 (fun _ => ev_var h0) fun _ => rv_I0)) fun z => ?_) ?_
    · simp only [Bool.and_eq_true, decide_eq_true_eq] at z
      exact absurd z hn
    · rw [decide_eq_false (p := At l q n) fun z => hn z.1, Bool.and_true, ← Bool.decide_and]
      exact decide_eq_false hn
theorem ok_at_place (T : Tx K mg) : FnOk P w K mg base CX0 4 T.a_at_place T.d_at_place ["last", "place"] sp_at_place := by
  refine T.F_at_place.ok sc_at_place (fun vs H Q E h => ?_) (fun cdv A outer s H vs Q E hr h => ?_)
  · obtain ⟨l, q, rfl, _⟩ := h
    rfl
  · obtain ⟨l, q, rfl, hl, h1, h2, k⟩ := h
    refine ⟨_, (pss_cons (ps_set (i := 2) sc_at_place.nd rfl (.inl rfl) (pe_op op_fdiv (pv 0) pe_int))
      (pss_cons (ps_set (i := 3) sc_at_place.nd rfl (.inl rfl) (pe_op op_add (pe_op op_mul pe_int (pv 2)) (pe_op op_mul pe_int (pe_op op_mod (pv 0) pe_int))))
      (pss_cons (ps_set (i := 4) sc_at_place.nd rfl (.inl rfl) (pe_op op_add (pv 1) pe_int))
      (pss_cons (ps_set (i := 5) sc_at_place.nd rfl (.inl rfl) (pe_lst (pa_cons (pe_op op_mul pe_int (pe_callB call_abs (by rfl) T.m_abs bt_abs (pa_cons (pe_op op_sub (pv 4) (pv 3)) pa_nil))) (pa_cons pe_int (pa_cons pe_int (pa_cons pe_int (pa_cons pe_int (pa_cons pe_int (pa_cons (pe_op op_sub (pe_op op_mul pe_int (pv 2)) pe_int) (pa_cons (pe_op op_add (pe_op op_mul pe_int (pv 2)) pe_int) (pa_cons (pe_op op_sub (pe_op op_mul pe_int (pv 2)) pe_int) (pa_cons (pe_op op_add (pe_op op_mul pe_int (pv 2)) pe_int) pa_nil))))))))))))
      (pss_cons (ps_for PassesOwn.never rfl (pi_tup (pe_tup (pa_cons (pe_un un_neg pe_int) (pa_cons pe_int (pa_cons pe_int pa_nil))))) (pg_name (i := 6) sc_at_place.nd rfl (Or.inl rfl))
      (pss_one (ps_expr (pe_bm PySem.F.plainAttrs_list PySem.F.slot_list_extend PySem.F.type_list_extend mt_extend (pv 5) (pa_cons (pe_lst (pa_cons (pe_op op_sub (pe_op op_add (pe_op op_mul pe_int (pv 2)) (pv 6)) (pe_op op_mul pe_int (pv 4))) (pa_cons (pe_op op_sub (pe_op op_sub (pe_op op_mul pe_int (pv 4)) (pe_op op_mul pe_int (pv 2))) (pv 6)) pa_nil))) pa_nil)))))
      (pss_one (ps_ret (pe_ix (r := rIxL K) ix_list (pe_lc (own := [("number", 7)]) (by rfl) sc_at_place.nd (pi_list (pv 5)) (blkOk_by (own := [("number", 7)]) (N := N_at_place) (sc := defScope s_at_place) (by decide +kernel)) (fun _ _ _ _ _ => (pg_name (i := 7) sc_at_place.nd rfl (Or.inl rfl))) (fun _ _ _ _ _ => pts_one (PW.pt (pw_and (pt_chain op_le op_le pe_int (pv 7) (pv 0)) (pw_and1 (pt_cmpR (r := rIn K false) op_in_seq (pv 1) (pe_call (ok_both T) (hr.mono (by decide)) (by rfl) T.g_both T.F_both.kp T.b_both .nil pass0 (pa_cons (pv 0) (pa_cons (pv 7) pa_nil))) (by rfl)))))) (fun _ _ _ _ _ => (pv 7))) pe_int (fun _ _ => rfl))))))))), ?_⟩
    refine q_asg (by walk_at "ev") fun H1 e1 => q_asg (by walk_at "ev") fun H2 e2 => q_asg (by walk_at "ev") fun H3 e3 => ?_
    refine q_asgL (el_lst (by walk_at "ev") (by show 10 ≤ 100000; decide)) fun a H4 ha e4 h4 => ?_
    have h4 : H4 a = some (.lst (((cand l q).take 10).map V.int)) := h4
    have e04 : Ex H H4 := ((e1.trans e2).trans e3).trans e4
    have ha0 : H a = none := fresh_back ((e1.trans e2).trans e3) ha
    refine q_forNU (xs := [.int (-1), .int 1, .int 3]) (eu_tup (by walk_at "ev") (by show 3 ≤ 100000; decide)) (fun p i σ' H' => (∃ y, σ' = [some (.int l), some (.int q), some (.int (l / 4)), some (.int (6 * (l / 4) + 2 * (l % 4))), some (.int (q + 1)), some (.ref a), y, none]) ∧ Ex H H' ∧ H' p = some (.tup [.int (-1), .int 1, .int 3]) ∧ p ≠ a ∧ H' a = some (.lst (((cand l q).take (10 + 2 * i)).map V.int)))
      (fun p H5 hp e5 h5 => ⟨⟨none, rfl⟩, e04.trans e5, h5, (fun z => by rw [z, h4] at hp; cases hp), e5 _ _ h4⟩) (fun p i σ' H' _ hP => st_of hP.2.2.1) ?_ ?_
    · rintro p i x σ' H' hi ⟨⟨y, rfl⟩, e', hp, np, h'⟩
      rcases i with _ | _ | _ | i
      · obtain rfl : V.int (-1) = x := Option.some.inj hi
        refine s_ext h' (ev_var rfl) (el_lst (by walk_at "ev") (by show 2 ≤ 100000; decide)) (by show 10 + 2 ≤ 100000; decide) fun H6 e6 => ⟨⟨_, rfl⟩, Ex.mut (e'.trans e6) ha0, ?_, np, upd_same⟩
        rw [upd_ne np]
        exact e6 _ _ hp
      · obtain rfl : V.int 1 = x := Option.some.inj hi
        refine s_ext h' (ev_var rfl) (el_lst (by walk_at "ev") (by show 2 ≤ 100000; decide)) (by show 12 + 2 ≤ 100000; decide) fun H6 e6 => ⟨⟨_, rfl⟩, Ex.mut (e'.trans e6) ha0, ?_, np, upd_same⟩
        rw [upd_ne np]
        exact e6 _ _ hp
      · obtain rfl : V.int 3 = x := Option.some.inj hi
        refine s_ext h' (ev_var rfl) (el_lst (by walk_at "ev") (by show 2 ≤ 100000; decide)) (by show 14 + 2 ≤ 100000; decide) fun H6 e6 => ⟨⟨_, rfl⟩, Ex.mut (e'.trans e6) ha0, ?_, np, upd_same⟩
        rw [upd_ne np]
        exact e6 _ _ hp
      · simp at hi
    · rintro p σ' H' ⟨⟨y, rfl⟩, e', hp, np, h'⟩
      have h' : H' a = some (.lst ((cand l q).map V.int)) := h'
      refine s_ret (ev_opL1 (el_is (el_lcL (xs := (cand l q).map V.int) (fun i => decide (At l q ((cand l q).getD i 0))) (fun i => .int ((cand l q).getD i 0)) (ev_var rfl) (sq_of h') (by show 16 ≤ 40000; decide) (fun _ => rfl)
          (fun i x H1 _ hi => by rw [getD_of hi]; exact et_cand (T := T) hl rfl rfl rfl) (fun i x H1 _ hi _ => by rw [getD_of hi]; exact ev_var rfl)) (given_filter (fun n => decide (At l q n)) (cand l q))) (fun _ _ => ev_c) fun p H6 hp6 e6 => rv_ixL (sq_of hp6) ?_) fun H7 e7 => k H7 (e'.trans e7)
      obtain ⟨r, er⟩ := filt_at hl (at_num hl h1 h2)
      rw [er]
      exact atI_nat (j := 0) rfl
theorem v_at_place {l q : Int} {H : Hp} (h : Can l) (h1 : 0 ≤ q) (h2 : q < 2 * l) : SpV sp_at_place [.int l, .int q] H (.int (num l q)) := fun _ _ _ k _ => ⟨l, q, rfl, h, h1, h2, k⟩
/-! ### number_at -/
def sp_number_at (T : Tx K mg) : Sp := fun vs H Q E => ∃ v u, vs = [v, u] ∧ ((∃ l q : Int, v = .int l ∧ u = .int q ∧ Can l ∧ 0 ≤ q ∧ q < 2 * l ∧ RetV (.int (num l q)) H Q) ∨ LastX T v H E ∨
  ∃ l : Int, v = .int l ∧ Can l ∧ BadV K H u (fun q => q < 0 ∨ 2 * l ≤ q) ∧ Err T.c_BadPlace H E)
theorem ok_number_at (T : Tx K mg) : FnOk P w K mg base (L2N.CX P w) 5 T.a_number_at T.d_number_at ["last", "place"] (sp_number_at T) := by
  refine okXN T.F_number_at sc_number_at (fun vs H Q E h => ?_) (fun cdv A outer s H vs Q E hr h => ?_)
  · obtain ⟨v, u, rfl, _⟩ := h
    rfl
  · obtain ⟨v, u, rfl, h⟩ := h
    refine ⟨_, (pss_cons (ps_expr (pe_call (ok_asked_row T) (hr.mono (by decide)) (by rfl) T.g_asked_row T.F_asked_row.kp T.b_asked_row .nil (L2N.passes_call (L2N.takes_of rfl rfl rfl rfl) (fun _ _ _ _ h => h)) (pa_cons (pv 0) pa_nil)))
      (pss_cons (ps_if (PW.pt (pw_or (pt_not (pt_val (pe_call (ok_is_number T) (hr.mono (by decide)) (by rfl) T.g_is_number T.F_is_number.kp T.b_is_number .nil pass0 (pa_cons (pv 1) pa_nil)))) (pw_or1 (pt_not (pt_chain op_le op_lt pe_int (pv 1) (pe_op op_mul pe_int (pv 0))))))) (pss_one (L2N.ps_raise rfl (L2N.takes_of rfl rfl rfl rfl) (L2N.pmk_own PySem.F.excBase_ValueError T.x_BadPlace.ex T.g_BadPlace T.x_BadPlace.kp (raises_own T.x_BadPlace.sb T.x_BadPlace.ty) (by rfl)))) pss_nil)
      (pss_one (ps_ret (pe_call (ok_at_place T) (hr.mono (by decide)) (by rfl) T.g_at_place T.F_at_place.kp T.b_at_place .nil pass0 (pa_cons (pv 0) (pa_cons (pv 1) pa_nil))))))), ?_⟩
    rcases h with ⟨l, q, rfl, rfl, hl, h1, h2, k⟩ | hx | ⟨l, rfl, hl, hb, k⟩
    · refine q_drop (ev_call (ea_cons (ev_var rfl) ea_nil) (v_asked_row (T := T) hl)) fun H1 e1 => ?_
      refine q_when (b := false) (et_is (et_or (et_not (et_B (ev_call (ea_cons (ev_var rfl) ea_nil) (v_is_number (Num.int q))))) fun _ => et_not (et_test (ev_chain ev_c (ev_var rfl) rv_I0 (fun _ => by walk_at "ev") fun _ => rv_I0))) ?_) (fun z => nomatch z) fun _ H2 e2 => ?_
      · rw [decide_eq_true h1, decide_eq_true h2]
        rfl
      · exact s_ret (ev_call (by walk_at "ev") (v_at_place hl h1 h2)) fun H3 e3 => k H3 ((e1.trans e2).trans e3)
    · exact ⟨_, rfl, _, rfl, .inr hx⟩
    · refine q_drop (ev_call (ea_cons (ev_var rfl) ea_nil) (v_asked_row (T := T) hl)) fun H1 e1 => ?_
      rcases hb with hb | ⟨q, rfl, hq⟩
      · exact q_when (b := true) (et_is (a := !false || true) (et_or (et_not (et_B (ev_call (ea_cons (ev_var rfl) ea_nil) (v_is_number (hb.ex e1))))) fun z => nomatch z) rfl) (fun _ H2 e2 => k H2 (e1.trans e2)) (fun z => nomatch z)
      · refine q_when (b := true) (et_is (et_or (et_not (et_B (ev_call (ea_cons (ev_var rfl) ea_nil) (v_is_number (Num.int q))))) fun _ => et_not (et_test (ev_chain ev_c (ev_var rfl) rv_I0 (fun _ => by walk_at "ev") fun _ => rv_I0))) ?_) (fun _ H2 e2 => k H2 (e1.trans e2)) (fun z => nomatch z)
        simp only [Bool.not_true, Bool.false_or, Bool.not_eq_true', Bool.and_eq_false_iff, decide_eq_false_iff_not]
        omega
theorem v_number_at {T : Tx K mg} {l q : Int} {H : Hp} (h : Can l) (h1 : 0 ≤ q) (h2 : q < 2 * l) : SpV (sp_number_at T) [.int l, .int q] H (.int (num l q)) := fun _ _ _ k _ => ⟨_, _, rfl, .inl ⟨l, q, rfl, rfl, h, h1, h2, k⟩⟩
end
end PA

set_option Elab.async false
set_option linter.all false
set_option maxRecDepth 100000
set_option maxHeartbeats 4000000
namespace PA
open PySem PySem.Spec PyProof.Rows L2 Evl
local macro_rules | `(tactic| walk_at "ev") => `(tactic| repeat' (first | (with_reducible exact ev_c) | (with_reducible refine' ev_var ?_) | (show _ = some (some _); rfl) | (with_reducible exact ea_nil) | (with_reducible refine' ea_cons ?_ ?_) | (with_reducible refine' ev_abs ?_) | (with_reducible refine' ev_op ?_ ?_ ?_) | (with_reducible exact rv_I0) | (exact rv_mulL (by decide)) | (exact rv_mulR (by decide)) | (exact rv_div (by decide)) | (exact rv_mod (by decide)) | (exact rv_pow (by decide)) | (with_reducible refine' ev_un ?_ ?_) | (with_reducible exact ru_neg) | (exact rv_eq rfl) | (exact rv_ne rfl) | (with_reducible refine' et_test ?_) | (with_reducible refine' et_B ?_) | (exact ev_c) | (exact rv_I0) | (exact ru_neg) | (exact ea_nil) | (refine' ea_cons ?_ ?_)))
section
variable {P : Program} {w : World} {K : PySem.W.Frag} {mg : Str → Option Value} {base : Heap}
/-! ### can -/
def sp_can (T : Tx K mg) : Sp := fun vs H Q E => ∃ v, vs = [v] ∧ ((∃ n : Int, v = .int n ∧ 1 ≤ n ∧ (n % 4 < 2 → RetI T.c_Can [] H Q) ∧ (¬ n % 4 < 2 → RetI T.c_Barred [] H Q)) ∨ (BadV K H v (· < 1) ∧ Err T.c_BadLast H E))
theorem ok_can (T : Tx K mg) : FnOk P w K mg base (L2N.CX P w) 3 T.a_can T.d_can ["last"] (sp_can T) := by
  refine okXN T.F_can sc_can (fun vs H Q E h => ?_) (fun cdv A outer s H vs Q E hr h => ?_)
  · obtain ⟨v, rfl, _⟩ := h
    rfl
  · obtain ⟨v, rfl, h⟩ := h
    refine ⟨_, (pss_cons (ps_expr (pe_call (ok_asked_last T) (hr.mono (by decide)) (by rfl) T.g_asked_last T.F_asked_last.kp T.b_asked_last .nil (L2N.passes_call (L2N.takes_of rfl rfl rfl rfl) (fun _ _ _ _ h => h)) (pa_cons (pv 0) pa_nil)))
      (pss_one (ps_ret (pe_ifExp (pt_cmpR op_lt (pe_op op_mod (pv 0) pe_int) pe_int (nomark _)) (pe_new0 T.n_Can (by rfl) T.g_Can) (pe_new0 T.n_Barred (by rfl) T.g_Barred))))), ?_⟩
    rcases h with ⟨n, rfl, h1, kc, kb⟩ | ⟨hb, k⟩
    · refine q_drop (ev_call (ea_cons (ev_var rfl) ea_nil) (v_asked_last (T := T) h1)) fun H1 e1 => ?_
      refine x_if (by walk_at "ev") (fun z H2 e2 => ?_) fun z H2 e2 => ?_
      · exact (ei_new (C := T.c_Can)) H2 (Ex.refl _) _ fun p dx H3 hp e3 h3 => (kc (of_decide_eq_true z)).go (e1.trans e2) hp e3 h3
      · exact (ei_new (C := T.c_Barred)) H2 (Ex.refl _) _ fun p dx H3 hp e3 h3 => (kb (of_decide_eq_false z)).go (e1.trans e2) hp e3 h3
    · exact ⟨_, rfl, _, rfl, .inr ⟨hb, k⟩⟩
theorem v_can1 {T : Tx K mg} {n : Int} {H : Hp} (h : 1 ≤ n) (h4 : n % 4 < 2) : SpI (sp_can T) [.int n] H T.c_Can [] := fun _ _ _ q _ => ⟨_, rfl, .inl ⟨n, rfl, h, fun _ => q, fun z => absurd h4 z⟩⟩
theorem v_can0 {T : Tx K mg} {n : Int} {H : Hp} (h : 1 ≤ n) (h4 : ¬ n % 4 < 2) : SpI (sp_can T) [.int n] H T.c_Barred [] := fun _ _ _ q _ => ⟨_, rfl, .inl ⟨n, rfl, h, fun z => absurd z h4, fun _ => q⟩⟩
end
end PA

set_option Elab.async false
set_option linter.all false
set_option maxRecDepth 100000
set_option maxHeartbeats 4000000
namespace PA
open PySem PySem.Spec PyProof.Rows L2 Evl
local macro_rules | `(tactic| walk_at "ev") => `(tactic| repeat' (first | (with_reducible exact ev_c) | (with_reducible refine' ev_var ?_) | (show _ = some (some _); rfl) | (with_reducible exact ea_nil) | (with_reducible refine' ea_cons ?_ ?_) | (with_reducible refine' ev_abs ?_) | (with_reducible refine' ev_op ?_ ?_ ?_) | (with_reducible exact rv_I0) | (exact rv_mulL (by decide)) | (exact rv_mulR (by decide)) | (exact rv_div (by decide)) | (exact rv_mod (by decide)) | (exact rv_pow (by decide)) | (with_reducible refine' ev_un ?_ ?_) | (with_reducible exact ru_neg) | (exact rv_eq rfl) | (exact rv_ne rfl) | (with_reducible refine' et_test ?_) | (with_reducible refine' et_B ?_) | (exact ev_c) | (exact rv_I0) | (exact ru_neg) | (exact ea_nil) | (refine' ea_cons ?_ ?_)))
section
variable {P : Program} {w : World} {K : PySem.W.Frag} {mg : Str → Option Value} {base : Heap}
/-! ### three_by, three_of -/
def sp_three_by : Sp := fun vs H Q _ => ∃ l n : Int, vs = [.int l, .int n] ∧ Can l ∧ 1 ≤ n ∧ n ≤ l ∧ RetL ((three l n).map V.int) H Q
theorem ok_three_by (T : Tx K mg) : FnOk P w K mg base CX0 3 T.a_three_by T.d_three_by ["last", "number"] sp_three_by := by
  refine T.F_three_by.ok sc_three_by (fun vs H Q E h => ?_) (fun cdv A outer s H vs Q E hr h => ?_)
  · obtain ⟨l, n, rfl, _⟩ := h
    rfl
  · obtain ⟨l, n, rfl, hl, h1, h2, k⟩ := h
    refine ⟨_, (pss_cons (ps_set (i := 2) sc_three_by.nd rfl (.inl rfl) (pe_op op_add (pe_op op_add (pv 0) (pe_call (ok_first_of T) (hr.mono (by decide)) (by rfl) T.g_first_of T.F_first_of.kp T.b_first_of .nil pass0 (pa_cons (pv 0) (pa_cons (pv 1) pa_nil)))) pe_int))
      (pss_one (ps_ret (pe_lst (pa_cons (pv 1) (pa_cons (pv 2) (pa_cons (pe_op op_add (pv 2) (pv 1)) pa_nil))))))), ?_⟩
    refine q_asg (v := .int (l + fst l n + 1)) (ev_op (ev_op (ev_var rfl) (ev_call (by walk_at "ev") (v_first_of hl h1 h2)) rv_I0) ev_c rv_I0) fun H1 e1 => ?_
    refine s_retL (el_is (el_lst (by walk_at "ev") (by show 3 ≤ 100000; decide)) ?_) fun p H2 hp e2 h2 => k.go e1 hp e2 h2
    unfold three
    rw [bas_low h2]
    rfl
theorem v_three_by {l n : Int} {H : Hp} (h : Can l) (h1 : 1 ≤ n) (h2 : n ≤ l) : SpL sp_three_by [.int l, .int n] H ((three l n).map V.int) := fun _ _ _ q _ => ⟨l, n, rfl, h, h1, h2, q⟩
def sp_three_of (T : Tx K mg) : Sp := fun vs H Q E => ∃ v u, vs = [v, u] ∧ ((∃ l n : Int, v = .int l ∧ u = .int n ∧ Can l ∧ 1 ≤ n ∧ n ≤ 3 * l ∧ RetL ((three l n).map V.int) H Q) ∨ LastX T v H E ∨
  ∃ l : Int, v = .int l ∧ Can l ∧ BadV K H u (fun n => n < 1 ∨ 3 * l < n) ∧ Err T.c_BadNumber H E)
theorem ok_three_of (T : Tx K mg) : FnOk P w K mg base (L2N.CX P w) 5 T.a_three_of T.d_three_of ["last", "number"] (sp_three_of T) := by
  refine okXN T.F_three_of sc_three_of (fun vs H Q E h => ?_) (fun cdv A outer s H vs Q E hr h => ?_)
  · obtain ⟨v, u, rfl, _⟩ := h
    rfl
  · obtain ⟨v, u, rfl, h⟩ := h
    refine ⟨_, (pss_cons (ps_expr (pe_call (ok_asked_row T) (hr.mono (by decide)) (by rfl) T.g_asked_row T.F_asked_row.kp T.b_asked_row .nil (L2N.passes_call (L2N.takes_of rfl rfl rfl rfl) (fun _ _ _ _ h => h)) (pa_cons (pv 0) pa_nil)))
      (pss_cons (ps_if (PW.pt (pw_or (pt_not (pt_val (pe_call (ok_is_number T) (hr.mono (by decide)) (by rfl) T.g_is_number T.F_is_number.kp T.b_is_number .nil pass0 (pa_cons (pv 1) pa_nil)))) (pw_or1 (pt_not (pt_chain op_le op_le pe_int (pv 1) (pe_op op_mul pe_int (pv 0))))))) (pss_one (L2N.ps_raise rfl (L2N.takes_of rfl rfl rfl rfl) (L2N.pmk_own PySem.F.excBase_ValueError T.x_BadNumber.ex T.g_BadNumber T.x_BadNumber.kp (raises_own T.x_BadNumber.sb T.x_BadNumber.ty) (by rfl)))) pss_nil)
      (pss_one (ps_ret (pe_call (ok_three_by T) (hr.mono (by decide)) (by rfl) T.g_three_by T.F_three_by.kp T.b_three_by .nil pass0 (pa_cons (pv 0) (pa_cons (pe_ifExp (pt_cmpR op_le (pv 1) (pv 0) (nomark _)) (pv 1) (pe_call (ok_at_place T) (hr.mono (by decide)) (by rfl) T.g_at_place T.F_at_place.kp T.b_at_place .nil pass0 (pa_cons (pv 0) (pa_cons (pe_op op_sub (pe_op op_sub (pv 1) (pv 0)) pe_int) pa_nil)))) pa_nil))))))), ?_⟩
    rcases h with ⟨l, n, rfl, rfl, hl, h1, h2, k⟩ | hx | ⟨l, rfl, hl, hb, k⟩
    · refine q_drop (ev_call (ea_cons (ev_var rfl) ea_nil) (v_asked_row (T := T) hl)) fun H1 e1 => ?_
      refine q_when (b := false) (et_is (et_or (et_not (et_B (ev_call (ea_cons (ev_var rfl) ea_nil) (v_is_number (Num.int n))))) fun _ => et_not (et_test (ev_chain ev_c (ev_var rfl) rv_I0 (fun _ => by walk_at "ev") fun _ => rv_I0))) ?_) (fun z => nomatch z) fun _ H2 e2 => ?_
      · rw [decide_eq_true h1, decide_eq_true h2]
        rfl
      · have b := bas_rng hl h1 h2
        refine s_retL (el_is (el_call (vs := [.int l, .int (bas l n)]) (ea_cons (ev_var rfl) (ea_cons (ev_is (ev_ifV (w := .int (num l (n - l - 1))) (by walk_at "ev") (fun _ => ev_var rfl) fun z => ?_) ?_) ea_nil)) (v_three_by hl b.1 b.2)) ?_) fun p H3 hp e3 h3 => k.go (e1.trans e2) hp e3 h3
        · have z := of_decide_eq_false z
          exact ev_call (vs := [.int l, .int (n - l - 1)]) (by walk_at "ev") (v_at_place hl (by omega) (by omega))
        · unfold bas
          simp only [decide_eq_true_eq]
          split <;> rfl
        · unfold three
          rw [bas_low b.2]
    · exact ⟨_, rfl, _, rfl, .inr hx⟩
    · refine q_drop (ev_call (ea_cons (ev_var rfl) ea_nil) (v_asked_row (T := T) hl)) fun H1 e1 => ?_
      rcases hb with hb | ⟨n, rfl, hn⟩
      · exact q_when (b := true) (et_is (a := !false || true) (et_or (et_not (et_B (ev_call (ea_cons (ev_var rfl) ea_nil) (v_is_number (hb.ex e1))))) fun z => nomatch z) rfl) (fun _ H2 e2 => k H2 (e1.trans e2)) (fun z => nomatch z)
      · refine q_when (b := true) (et_is (et_or (et_not (et_B (ev_call (ea_cons (ev_var rfl) ea_nil) (v_is_number (Num.int n))))) fun _ => et_not (et_test (ev_chain ev_c (ev_var rfl) rv_I0 (fun _ => by walk_at "ev") fun _ => rv_I0))) ?_) (fun _ H2 e2 => k H2 (e1.trans e2)) (fun z => nomatch z)
        simp only [Bool.not_true, Bool.false_or, Bool.not_eq_true', Bool.and_eq_false_iff, decide_eq_false_iff_not]
        omega
theorem v_three_of {T : Tx K mg} {l n : Int} {H : Hp} (h : Can l) (h1 : 1 ≤ n) (h2 : n ≤ 3 * l) : SpL (sp_three_of T) [.int l, .int n] H ((three l n).map V.int) := fun _ _ _ q _ => ⟨_, _, rfl, .inl ⟨l, n, rfl, rfl, h, h1, h2, q⟩⟩
end
end PA

set_option Elab.async false
set_option linter.all false
set_option maxRecDepth 100000
set_option maxHeartbeats 4000000
namespace PA
open PySem PySem.Spec PyProof.Rows L2 Evl
local macro_rules | `(tactic| walk_at "ev") => `(tactic| repeat' (first | (with_reducible exact ev_c) | (with_reducible refine' ev_var ?_) | (show _ = some (some _); rfl) | (with_reducible exact ea_nil) | (with_reducible refine' ea_cons ?_ ?_) | (with_reducible refine' ev_abs ?_) | (with_reducible refine' ev_op ?_ ?_ ?_) | (with_reducible exact rv_I0) | (exact rv_mulL (by decide)) | (exact rv_mulR (by decide)) | (exact rv_div (by decide)) | (exact rv_mod (by decide)) | (exact rv_pow (by decide)) | (with_reducible refine' ev_un ?_ ?_) | (with_reducible exact ru_neg) | (exact rv_eq rfl) | (exact rv_ne rfl) | (with_reducible refine' et_test ?_) | (with_reducible refine' et_B ?_) | (exact ev_c) | (exact rv_I0) | (exact ru_neg) | (exact ea_nil) | (refine' ea_cons ?_ ?_)))
section
variable {P : Program} {w : World} {K : PySem.W.Frag} {mg : Str → Option Value} {base : Heap}
/-! ### is_right -/
theorem ev_count {σ : L2.St} {H : Hp} {ta tb : TE} {a : Addr} {ns : List Int} {n : Int} (h : Ev ta σ H (.ref a)) (hs : SqL K H a (ns.map V.int)) (hn : Ev tb σ H (.int n)) : Ev (tBM K "list" (rCntI K) ta (tCons tb tNil)) σ H (.int ((ns.count n : Nat) : Int)) := fun H1 e Q q =>
  h H1 e _ fun H2 e2 => ⟨Or.inl ⟨rfl, _, ex_l (e.trans e2) hs⟩, hn H2 (e.trans e2) _ fun H3 e3 => ⟨a, ns, n, rfl, rfl, ex_l ((e.trans e2).trans e3) hs, q H3 (e2.trans e3)⟩⟩
theorem ev_index {σ : L2.St} {H : Hp} {ta tb : TE} {a : Addr} {ns : List Int} {n : Int} {j : Nat} (h : Ev ta σ H (.ref a)) (hs : SqL K H a (ns.map V.int)) (hn : Ev tb σ H (.int n)) (hj : ns[j]? = some n) (hf : ∀ m z, m < j → ns[m]? = some z → z ≠ n) : Ev (tBM K "list" (rIndex K) ta (tCons tb tNil)) σ H (.int (j : Nat)) := fun H1 e Q q =>
  h H1 e _ fun H2 e2 => ⟨Or.inl ⟨rfl, _, ex_l (e.trans e2) hs⟩, hn H2 (e.trans e2) _ fun H3 e3 => ⟨a, ns.map V.int, .int n, j, .int n, rfl, rfl, ex_l ((e.trans e2).trans e3) hs, rfl, List.all_eq_true.mpr fun v hv => (by
      obtain ⟨x, _, rfl⟩ := List.mem_map.mp hv
      rfl), by rw [List.getElem?_map, hj]; rfl, (by show (n == n) = true; exact beq_self_eq_true n), fun m z' hm hz => (by
      rw [List.getElem?_map] at hz
      cases e4 : ns[m]? with
      | none => rw [e4] at hz; cases hz
      | some z =>
        rw [e4] at hz
        have : V.int z = z' := Option.some.inj hz
        subst this
        show (z == n) = false
        exact beq_eq_false_iff_ne.mpr (hf m z hm e4)), q H3 (e2.trans e3)⟩⟩
def sp_is_right (K : PySem.W.Frag) : Sp := fun vs H Q _ => ∃ (a : Addr) (ns : List Int) (n : Int), vs = [.ref a, .int n] ∧ SqL K H a (ns.map V.int) ∧ 1 ≤ n ∧ RetV (.bl (rgt ns n)) H Q
theorem ok_is_right (T : Tx K mg) : FnOk P w K mg base CX0 1 T.a_is_right T.d_is_right ["row", "number"] (sp_is_right K) := by
  refine T.F_is_right.ok sc_is_right (fun vs H Q E h => ?_) (fun cdv A outer s H vs Q E hr h => ?_)
  · obtain ⟨a, ns, n, rfl, _⟩ := h
    rfl
  · obtain ⟨a, ns, n, rfl, hS, h1, k⟩ := h
    refine ⟨_, (pss_cons (ps_if (pt_cmpR op_ne (pe_bm PySem.F.plainAttrs_list PySem.F.slot_list_count PySem.F.type_list_count mt_lcount (pv 0) (pa_cons (pv 1) pa_nil)) pe_int (nomark _)) (pss_one (ps_ret pe_bl)) pss_nil)
      (pss_cons (ps_set (i := 2) sc_is_right.nd rfl (.inl rfl) (pe_bm PySem.F.plainAttrs_list PySem.F.slot_list_index PySem.F.type_list_index mt_index (pv 0) (pa_cons (pv 1) pa_nil)))
      (pss_one (ps_ret (pe_and (pe_cmpR op_lt (pe_op op_add (pv 2) (pv 1)) (pe_callB (r := rLenS K) call_len_seq (by rfl) T.m_len bt_len (pa_cons (pv 0) pa_nil)) (nomark _)) (pe_one (pe_cmpR op_eq (pe_ix (r := rIxL K) ix_list (pv 0) (pe_op op_add (pv 2) (pv 1)) (fun _ _ => rfl)) (pv 1) (nomark _)))))))), ?_⟩
    refine q_when (et_test (ev_op (ev_count (ev_var rfl) hS (ev_var rfl)) ev_c (rv_ne rfl))) (fun z H1 e1 => ?_) fun z H1 e1 => ?_
    · have hc : (posL ns n).length ≠ 2 := fun y => by
        rw [count_pos, y] at z
        simp at z
      rw [rgt_no hc] at k
      exact s_ret (by walk_at "ev") fun H2 e2 => k H2 (e1.trans e2)
    · have hc : (posL ns n).length = 2 := by
        rw [count_pos] at z
        simp only [Bool.not_eq_false', decide_eq_true_eq, V.int.injEq] at z
        omega
      obtain ⟨i, j, hp, hij⟩ := pair_of hc
      have pf := pos_first hp hij
      have S1 := ex_l e1 hS
      refine q_asg (ev_index (ev_var rfl) S1 (ev_var rfl) pf.1 pf.2) fun H2 e2 => ?_
      have S2 := ex_l e2 S1
      have r := rgt_at hp hij h1
      have il := lt_of pf.1
      refine s_ret (v := .bl (rgt ns n)) (ev_is (ev_andV (ev_op (by walk_at "ev") (ev_len (ev_var rfl) S2) rv_I0) fun z => ev_op (ev_op (ev_var rfl) (by walk_at "ev") (rv_ixL S2 (atI_int (i := (i : Int) + n) (by omega) ?_))) (ev_var rfl) (rv_eq rfl)) ?_) fun H3 e3 => k H3 ((e1.trans e2).trans e3)
      · have := of_decide_eq_true z
        rw [List.length_map] at this
        exact this
      · rw [← r, List.length_map]
        congr 2
        exact decide_eq_decide.mpr ⟨fun z => V.int.inj z, fun z => by rw [z]⟩
theorem v_is_right {a : Addr} {ns : List Int} {n : Int} {H : Hp} (hS : SqL K H a (ns.map V.int)) (h1 : 1 ≤ n) : SpV (sp_is_right K) [.ref a, .int n] H (.bl (rgt ns n)) := fun _ e _ q _ => ⟨a, ns, n, rfl, ex_l e hS, h1, q⟩
/-! ### Good.shows -/
def sp_Good_shows (K : PySem.W.Frag) : Sp := fun vs H Q _ => ∃ (p a : Addr) (ns : List Int), vs = [.ref p, .ref a] ∧ SqL K H a (ns.map V.int) ∧ ns.length ≤ 1000 ∧ RetV (.bl (good ns)) H Q
theorem ok_Good_shows (T : Tx K mg) : FnOk P w K mg base CX0 2 T.a_Good_shows T.d_Good_shows ["self", "row"] (sp_Good_shows K) := by
  refine T.F_Good_shows.ok sc_Good_shows (fun vs H Q E h => ?_) (fun cdv A outer s H vs Q E hr h => ?_)
  · obtain ⟨p, a, ns, rfl, _⟩ := h
    rfl
  · obtain ⟨p, a, ns, rfl, hS, hlen, k⟩ := h
    refine ⟨_, (pss_one (ps_ret (pe_callB (r := rAll K) (cr_all rfl) (by rfl) T.m_all bt_all (pa_cons (pe_lc (own := [("number", 2)]) (by rfl) sc_Good_shows.nd (pi_range2 (by rfl) T.m_range (pa_cons pe_int (pa_cons (pe_op op_add (pe_op op_fdiv (pe_callB (r := rLenS K) call_len_seq (by rfl) T.m_len bt_len (pa_cons (pv 1) pa_nil)) pe_int) pe_int) pa_nil))) (blkOk_by (own := [("number", 2)]) (N := N_Good_shows) (sc := defScope s_Good_shows) (by decide +kernel)) (fun _ _ _ _ _ => (pg_name (i := 2) sc_Good_shows.nd rfl (Or.inl rfl))) (fun _ _ _ _ _ => pts_nil) (fun _ _ _ _ _ => (pe_call (ok_is_right T) (hr.mono (by decide)) (by rfl) T.g_is_right T.F_is_right.kp T.b_is_right .nil pass0 (pa_cons (pv 1) (pa_cons (pv 2) pa_nil))))) pa_nil)))), ?_⟩
    have el : (((ns.map V.int).length : Nat) : Int) = (ns.length : Int) := by rw [List.length_map]
    refine s_ret (v := .bl (good ns)) (ev_is (ev_allN (b := fun i => rgt ns (1 + (i : Int))) (el_lcR2 (lo := 1) (n := (ns.length : Int) / 2 + 1) (fun _ => true) (fun i => .bl (rgt ns (1 + (i : Int)))) (ea_cons ev_c (ea_cons (ev_op (ev_op (ev_lenI (ev_var rfl) hS) ev_c (rv_div (by decide))) ev_c rv_I0) ea_nil)) (by omega) (fun _ => rfl) (fun _ _ _ _ => et_yes)
      fun i H1 e1 hi _ => ev_call (vs := [.ref a, .int (1 + (i : Int))]) (by walk_at "ev") (v_is_right (ex_l e1 hS) (by omega)))) ?_) k
    unfold good
    rw [show ((ns.length : Int) / 2 + 1 - 1).toNat = ns.length / 2 by omega]
theorem v_Good_shows {p a : Addr} {ns : List Int} {H : Hp} (hS : SqL K H a (ns.map V.int)) (h1 : ns.length ≤ 1000) : SpV (sp_Good_shows K) [.ref p, .ref a] H (.bl (good ns)) := fun _ e _ q _ => ⟨p, a, ns, rfl, ex_l e hS, h1, q⟩
/-! ### Off -/
theorem ok_Off___init__ (T : Tx K mg) : FnOk P w K mg base CX0 1 T.a_Off___init__ T.d_Off___init__ ["self", "number"] (sp_init1 T.c_Off "number") := by
  refine T.F_Off___init__.ok sc_Off___init__ (fun vs H Q E h => ?_) (fun cdv A outer s H vs Q E hr h => ?_)
  · obtain ⟨p, dx, v, rfl, _⟩ := h
    rfl
  · obtain ⟨p, dx, v, rfl, hp, k⟩ := h
    refine ⟨_, (pss_one (ps_fld (pv 0) (pv 1) rfl)), ?_⟩
    exact ⟨_, rfl, _, rfl, p, T.c_Off, dx, [], rfl, hp, T.i_Off.cl, T.na_Off_number, (by show 0 < 1000; decide), k⟩
/-- what Off(n).shows tells -/
def off (ns : List Int) (n : Int) : Bool := (decide (1 ≤ n) && decide (n ≤ ((ns.length / 2 : Nat) : Int))) && !(rgt ns n)
def sp_Off_shows (T : Tx K mg) : Sp := fun vs H Q _ => ∃ (p dx a : Addr) (n : Int) (ns : List Int), vs = [.ref p, .ref a] ∧ H p = some (.ins T.c_Off dx [("number", .int n)]) ∧ SqL K H a (ns.map V.int) ∧ RetV (.bl (off ns n)) H Q
theorem ok_Off_shows (T : Tx K mg) : FnOk P w K mg base CX0 2 T.a_Off_shows T.d_Off_shows ["self", "row"] (sp_Off_shows T) := by
  refine T.F_Off_shows.ok sc_Off_shows (fun vs H Q E h => ?_) (fun cdv A outer s H vs Q E hr h => ?_)
  · obtain ⟨p, dx, a, n, ns, rfl, _⟩ := h
    rfl
  · obtain ⟨p, dx, a, n, ns, rfl, hp, hS, k⟩ := h
    refine ⟨_, (pss_one (ps_ret (pe_and (pe_chain op_le op_le pe_int (pe_fld (pv 0) rfl) (pe_op op_fdiv (pe_callB (r := rLenS K) call_len_seq (by rfl) T.m_len bt_len (pa_cons (pv 1) pa_nil)) pe_int)) (pe_one (pe_not (pe_call (ok_is_right T) (hr.mono (by decide)) (by rfl) T.g_is_right T.F_is_right.kp T.b_is_right .nil pass0 (pa_cons (pv 1) (pa_cons (pe_fld (pv 0) rfl) pa_nil)))))))), ?_⟩
    have el : (((ns.map V.int).length : Nat) : Int) = (ns.length : Int) := by rw [List.length_map]
    have fl : ∀ {σ : L2.St} {H2 : Hp}, Ex H H2 → σ[0]? = some (some (.ref p)) → Ev (tFld K (tVar 0) "number") σ H2 (.int n) := fun e hv => ev_fld (e _ _ hp) (ev_var hv) T.i_Off.cl T.na_Off_number rfl
    refine s_ret (v := .bl (off ns n)) (ev_is (ev_andV (ev_chain ev_c (fl (Ex.refl _) rfl) rv_I0 (fun _ => ev_op (ev_lenI (ev_var rfl) hS) ev_c (rv_div (by decide))) fun _ => rv_I0) fun z => ev_notV (ev_call (vs := [.ref a, .int n]) (ea_cons (ev_var rfl) (ea_cons (fl (Ex.refl _) rfl) ea_nil)) (v_is_right hS ?_))) ?_) k
    · simp only [Bool.and_eq_true, decide_eq_true_eq] at z
      exact z.1
    · unfold off
      congr 3
theorem v_Off_shows {T : Tx K mg} {p dx a : Addr} {n : Int} {ns : List Int} {H : Hp} (hp : H p = some (.ins T.c_Off dx [("number", .int n)])) (hS : SqL K H a (ns.map V.int)) : SpV (sp_Off_shows T) [.ref p, .ref a] H (.bl (off ns n)) := fun _ e _ q _ => ⟨p, dx, a, n, ns, rfl, e _ _ hp, ex_l e hS, q⟩
end
end PA

set_option Elab.async false
set_option linter.all false
set_option maxRecDepth 100000
set_option maxHeartbeats 4000000
namespace PA
open PySem PySem.Spec PyProof.Rows L2 Evl
local macro_rules | `(tactic| walk_at "ev") => `(tactic| repeat' (first | (with_reducible exact ev_c) | (with_reducible refine' ev_var ?_) | (show _ = some (some _); rfl) | (with_reducible exact ea_nil) | (with_reducible refine' ea_cons ?_ ?_) | (with_reducible refine' ev_abs ?_) | (with_reducible refine' ev_op ?_ ?_ ?_) | (with_reducible exact rv_I0) | (exact rv_mulL (by decide)) | (exact rv_mulR (by decide)) | (exact rv_div (by decide)) | (exact rv_mod (by decide)) | (exact rv_pow (by decide)) | (with_reducible refine' ev_un ?_ ?_) | (with_reducible exact ru_neg) | (exact rv_eq rfl) | (exact rv_ne rfl) | (with_reducible refine' et_test ?_) | (with_reducible refine' et_B ?_) | (exact ev_c) | (exact rv_I0) | (exact ru_neg) | (exact ea_nil) | (refine' ea_cons ?_ ?_)))
section
variable {P : Program} {w : World} {K : PySem.W.Frag} {mg : Str → Option Value} {base : Heap}
/-! ### asked_list -/
def RowLen (n : Nat) : Prop := 2 ≤ n ∧ n ≤ 400 ∧ n % 2 = 0
instance (n : Nat) : Decidable (RowLen n) := inferInstanceAs (Decidable (_ ∧ _ ∧ _))
/-- no row: no list, of no length that is due, or one with a thing that is no whole number -/
def NoRowV (K : PySem.W.Frag) (H : Hp) (v : V) : Prop := (∃ T, TyX K H v (.type T) ∧ kitB T "list" = some false) ∨ (∃ a xs, v = .ref a ∧ SqL K H a xs ∧ ¬ RowLen xs.length) ∨
  ∃ (a : Addr) (xs : List V) (f : Nat → Bool), v = .ref a ∧ SqL K H a xs ∧ RowLen xs.length ∧ (∀ i x, xs[i]? = some x → Num K H x (f i)) ∧ ∃ i, i < xs.length ∧ f i = false
theorem NoRowV.ex {H H' : Hp} {v : V} (e : Ex H H') (h : NoRowV K H v) : NoRowV K H' v := by
  rcases h with ⟨T, a, b⟩ | ⟨a, xs, r, s, l⟩ | ⟨a, xs, f, r, s, l, n, z⟩
  · exact .inl ⟨T, ex_ty e a, b⟩
  · exact .inr (.inl ⟨a, xs, r, ex_l e s, l⟩)
  · exact .inr (.inr ⟨a, xs, f, r, ex_l e s, l, fun i x hi => (n i x hi).ex e, z⟩)
def sp_asked_list (T : Tx K mg) : Sp := fun vs H Q E => ∃ v, vs = [v] ∧ ((∃ (a : Addr) (ns : List Int), v = .ref a ∧ SqL K H a (ns.map V.int) ∧ RowLen ns.length ∧ RetV .non H Q) ∨ (NoRowV K H v ∧ Err T.c_BadRow H E))
theorem et_len {σ : L2.St} {H : Hp} {a : Addr} {xs : List V} {c : V} {t0 : Tok} (T : Tx K mg) (hv : σ[0]? = some (some (.ref a))) (hs : SqL K H a xs) (b : Bool) (hb : b = !decide (RowLen xs.length)) :
    EvT (tOr (tNot (tB (tCB (rIsi K) (tCons (tVar 0) (tCons (tC (.ty "list")) tNil))))) (tOr (tNot (tTest (tChain (rI0 fun i j => .bl (decide (i ≤ j))) (rI0 fun i j => .bl (decide (i ≤ j))) (tC (.int 2)) (tCB (rLenS K) (tCons (tVar 0) tNil)) (tC (.int 400))))) (tTest (tOp rEq (tOp (rI (fun _ j => 0 < j) fun i j => .int (i % j)) (tCB (rLenS K) (tCons (tVar 0) tNil)) (tC (.int 2))) (tC (.int 1)))))) σ H b := by
  refine et_is (et_or (et_not (et_B (ev_isi (ea_cons (ev_var hv) (ea_cons ev_c ea_nil)) (.ty "list") (tyx_sq hs) (kit_ty (b := "list") (r := true) (by decide +kernel))))) fun _ => et_or (et_not (et_test (ev_chain ev_c (ev_len (ev_var hv) hs) rv_I0 (fun _ => ev_c) fun _ => rv_I0))) fun _ => et_test (ev_op (ev_op (ev_len (ev_var hv) hs) ev_c (rv_mod (by decide))) ev_c (rv_eq rfl))) ?_
  rw [hb]
  by_cases h : RowLen xs.length
  · have hh : 2 ≤ xs.length ∧ xs.length ≤ 400 ∧ xs.length % 2 = 0 := h
    have e1 : decide ((2 : Int) ≤ (xs.length : Int)) = true := decide_eq_true (by omega)
    have e2 : decide ((xs.length : Int) ≤ 400) = true := decide_eq_true (by omega)
    have e3 : decide (V.int ((xs.length : Int) % 2) = V.int 1) = false := decide_eq_false fun z => by have := V.int.inj z; omega
    rw [decide_eq_true h, e1, e2, e3]
    rfl
  · rw [decide_eq_false h]
    have hh : ¬ (2 ≤ xs.length ∧ xs.length ≤ 400 ∧ xs.length % 2 = 0) := h
    show (!true || (!(decide ((2 : Int) ≤ (xs.length : Int)) && decide ((xs.length : Int) ≤ 400)) || decide (V.int ((xs.length : Int) % 2) = V.int 1))) = true
    by_cases h1 : (2 : Int) ≤ (xs.length : Int) ∧ (xs.length : Int) ≤ 400
    · have e3 : decide (V.int ((xs.length : Int) % 2) = V.int 1) = true := decide_eq_true (by rw [show (xs.length : Int) % 2 = 1 by omega])
      rw [e3]
      simp
    · have : (decide ((2 : Int) ≤ (xs.length : Int)) && decide ((xs.length : Int) ≤ 400)) = false := by
        rw [← Bool.decide_and]
        exact decide_eq_false h1
      rw [this]
      rfl
theorem ok_asked_list (T : Tx K mg) : FnOk P w K mg base (L2N.CX P w) 2 T.a_asked_list T.d_asked_list ["row"] (sp_asked_list T) := by
  refine okXN T.F_asked_list sc_asked_list (fun vs H Q E h => ?_) (fun cdv A outer s H vs Q E hr h => ?_)
  · obtain ⟨v, rfl, _⟩ := h
    rfl
  · obtain ⟨v, rfl, h⟩ := h
    refine ⟨_, (pss_cons (ps_if (PW.pt (pw_or (pt_not (pt_val (pe_callB (r := rIsi K) call_isi (by rfl) T.m_isinstance bt_isinstance (pa_cons (pv 0) (pa_cons (pe_bltn (v := .ty "list") (by rfl) T.m_list bt_list rfl) pa_nil))))) (pw_or (pt_not (pt_chain op_le op_le pe_int (pe_callB (r := rLenS K) call_len_seq (by rfl) T.m_len bt_len (pa_cons (pv 0) pa_nil)) (pe_glob (v := .int 400) (by rfl) T.c_MOST ⟨_, rfl⟩))) (pw_or1 (pt_cmpR op_eq (pe_op op_mod (pe_callB (r := rLenS K) call_len_seq (by rfl) T.m_len bt_len (pa_cons (pv 0) pa_nil)) pe_int) pe_int (nomark _)))))) (pss_one (L2N.ps_raise rfl (L2N.takes_of rfl rfl rfl rfl) (L2N.pmk_own PySem.F.excBase_ValueError T.x_BadRow.ex T.g_BadRow T.x_BadRow.kp (raises_own T.x_BadRow.sb T.x_BadRow.ty) (by rfl)))) pss_nil)
      (pss_one (ps_if (pt_not (pt_val (pe_callB (r := rAll K) (cr_all rfl) (by rfl) T.m_all bt_all (pa_cons (pe_lc (own := [("one", 1)]) (by rfl) sc_asked_list.nd (pi_list (pv 0)) (blkOk_by (own := [("one", 1)]) (N := N_asked_list) (sc := defScope s_asked_list) (by decide +kernel)) (fun _ _ _ _ _ => (pg_name (i := 1) sc_asked_list.nd rfl (Or.inl rfl))) (fun _ _ _ _ _ => pts_nil) (fun _ _ _ _ _ => (pe_call (ok_is_number T) (hr.mono (by decide)) (by rfl) T.g_is_number T.F_is_number.kp T.b_is_number .nil pass0 (pa_cons (pv 1) pa_nil)))) pa_nil)))) (pss_one (L2N.ps_raise rfl (L2N.takes_of rfl rfl rfl rfl) (L2N.pmk_own PySem.F.excBase_ValueError T.x_BadRow.ex T.g_BadRow T.x_BadRow.kp (raises_own T.x_BadRow.sb T.x_BadRow.ty) (by rfl)))) pss_nil))), ?_⟩
    have nums : ∀ {a : Addr} {xs : List V} {f : Nat → Bool} {H1 : Hp}, SqL K H1 a xs → xs.length ≤ 400 → (∀ i x, xs[i]? = some x → Num K H1 x (f i)) → EvT (tNot (tB (tCB (rAll K) (tCons (tLc (iList K (tVar 0)) (gName 1) tYes (tCall (sp_is_number K) [] E0 (tCons (tVar 1) tNil)) [1]) tNil)))) (start ["row", "one"] [.ref a]) H1 (!(List.range xs.length).all f) := fun hs hl hn =>
      et_not (et_B (ev_allN (el_lcL (fun _ => true) (fun i => .bl _) (ev_var rfl) hs (by omega) (fun _ => rfl) (fun _ _ _ _ _ => et_yes) fun i x H2 e2 hi _ => ev_call (ea_cons (ev_var rfl) ea_nil) (v_is_number ((hn i x hi).ex e2)))))
    rcases h with ⟨a, ns, rfl, hs, hl, k⟩ | ⟨hb, k⟩
    · refine q_when (b := false) (et_len (c := .non) (t0 := 0) T rfl hs _ (by rw [List.length_map, decide_eq_true hl]; rfl)) (fun z => nomatch z) fun _ H1 e1 => ?_
      refine s_when (b := false) (et_is (nums (f := fun _ => true) (ex_l e1 hs) (by rw [List.length_map]; exact hl.2.1) fun i x hi => by rw [getD_of hi]; exact Num.int _) (by rw [show (List.range (ns.map V.int).length).all (fun _ => true) = true from List.all_eq_true.mpr fun _ _ => rfl]; rfl)) (fun z => nomatch z) fun _ H2 e2 => k H2 (e1.trans e2)
    · rcases hb with ⟨ty, ht, hk⟩ | ⟨a, xs, rfl, hs, hl⟩ | ⟨a, xs, f, rfl, hs, hl, hn, i, hi, hf⟩
      · exact q_when (b := true) (et_is (a := !false || true) (et_or (et_not (et_B (ev_isi (ea_cons (ev_var rfl) (ea_cons ev_c ea_nil)) (.ty "list") ht (kit_ty hk)))) fun z => nomatch z) rfl) (fun _ H1 e1 => k H1 e1) (fun z => nomatch z)
      · exact q_when (b := true) (et_len (c := .non) (t0 := 0) T rfl hs _ (by rw [decide_eq_false hl]; rfl)) (fun _ H1 e1 => k H1 e1) (fun z => nomatch z)
      · refine q_when (b := false) (et_len (c := .non) (t0 := 0) T rfl hs _ (by rw [decide_eq_true hl]; rfl)) (fun z => nomatch z) fun _ H1 e1 => ?_
        refine s_when (b := true) (et_is (nums (f := f) (ex_l e1 hs) hl.2.1 fun i x hi => (hn i x hi).ex e1) ?_) (fun _ H2 e2 => k H2 (e1.trans e2)) (fun z => nomatch z)
        rw [show (List.range xs.length).all f = false from List.all_eq_false.mpr ⟨i, List.mem_range.mpr hi, by rw [hf]; decide⟩]
        rfl
theorem v_asked_list {T : Tx K mg} {a : Addr} {ns : List Int} {H : Hp} (hs : SqL K H a (ns.map V.int)) (hl : RowLen ns.length) : SpV (sp_asked_list T) [.ref a] H .non := fun _ e _ q _ => ⟨_, rfl, .inl ⟨a, ns, rfl, ex_l e hs, hl, q⟩⟩
/-! ### told, mirrored -/
/-- an answer to a row: a Good, or an Off with this number -/
def IsG (T : Tx K mg) (v : V) (H : Hp) : Prop := ∃ p dx, v = .ref p ∧ H p = some (.ins T.c_Good dx [])
def IsO (T : Tx K mg) (n : Int) (v : V) (H : Hp) : Prop := ∃ p dx, v = .ref p ∧ H p = some (.ins T.c_Off dx [("number", .int n)])
def IsA (T : Tx K mg) (ns : List Int) (v : V) (H : Hp) : Prop := (good ns = true ∧ IsG T v H) ∨ (good ns = false ∧ IsO T (offN ns) v H)
theorem isA_stab {T : Tx K mg} {ns : List Int} : Stab (IsA T ns) := fun v H H' e h => by
  rcases h with ⟨g, p, dx, r, hp⟩ | ⟨g, p, dx, r, hp⟩
  · exact .inl ⟨g, p, dx, r, e _ _ hp⟩
  · exact .inr ⟨g, p, dx, r, e _ _ hp⟩
def sp_told (T : Tx K mg) : Sp := fun vs H Q E => ∃ v, vs = [v] ∧ ((∃ (a : Addr) (ns : List Int), v = .ref a ∧ SqL K H a (ns.map V.int) ∧ RowLen ns.length ∧ ∀ v H1, Ex H H1 → IsA T ns v H1 → Q v H1) ∨ (NoRowV K H v ∧ Err T.c_BadRow H E))
theorem ok_told (T : Tx K mg) : FnOk P w K mg base (L2N.CX P w) 3 T.a_told T.d_told ["row"] (sp_told T) := by
  refine okXN T.F_told sc_told (fun vs H Q E h => ?_) (fun cdv A outer s H vs Q E hr h => ?_)
  · obtain ⟨v, rfl, _⟩ := h
    rfl
  · obtain ⟨v, rfl, h⟩ := h
    refine ⟨_, (pss_cons (ps_expr (pe_call (ok_asked_list T) (hr.mono (by decide)) (by rfl) T.g_asked_list T.F_asked_list.kp T.b_asked_list .nil (L2N.passes_call (L2N.takes_of rfl rfl rfl rfl) (fun _ _ _ _ h => h)) (pa_cons (pv 0) pa_nil)))
      (pss_cons (ps_for (passes_of rfl) rfl (pi_range2 (by rfl) T.m_range (pa_cons pe_int (pa_cons (pe_op op_add (pe_op op_fdiv (pe_callB (r := rLenS K) call_len_seq (by rfl) T.m_len bt_len (pa_cons (pv 0) pa_nil)) pe_int) pe_int) pa_nil))) (pg_name (i := 1) sc_told.nd rfl (Or.inl rfl))
      (pss_one (ps_if (pt_not (pt_val (pe_call (ok_is_right T) (hr.mono (by decide)) (by rfl) T.g_is_right T.F_is_right.kp T.b_is_right .nil pass0 (pa_cons (pv 0) (pa_cons (pv 1) pa_nil))))) (pss_one (ps_ret (pe_make T.n_Off (ok_Off___init__ T) (hr.mono (by decide)) (by rfl) T.g_Off T.b_Off___init__ .nil pass0 (pa_cons (pv 1) pa_nil)))) pss_nil)))
      (pss_one (ps_ret (pe_new0 T.n_Good (by rfl) T.g_Good))))), ?_⟩
    rcases h with ⟨a, ns, rfl, hs, hl, k⟩ | ⟨hb, k⟩
    · refine q_drop (ev_call (ea_cons (ev_var rfl) ea_nil) (v_asked_list (T := T) hs hl)) fun H1 e1 => ?_
      have s1 := ex_l e1 hs
      have l2 := hl.2.1
      refine q_forR2 (lo := 1) (n := (ns.length : Int) / 2 + 1) (ea_cons ev_c (ea_cons (ev_op (ev_op (ev_lenI (ev_var rfl) s1) ev_c (rv_div (by decide))) ev_c rv_I0) ea_nil)) (by omega) (fun i σ' H' => (∃ y, σ' = [some (.ref a), y]) ∧ Ex H H' ∧ ∀ j : Nat, j < i → rgt ns (1 + (j : Int)) = true) (fun H2 e2 => ⟨⟨_, rfl⟩, e1.trans e2, fun j hj => nomatch hj⟩) ?_ ?_
      · rintro i σ' H' hi ⟨⟨y, rfl⟩, e', hg⟩
        refine s_when (et_not (et_B (ev_call (vs := [.ref a, .int (1 + (i : Int))]) (by walk_at "ev") (v_is_right (ex_l e' hs) (by omega))))) (fun z H2 e2 => ?_) fun z H2 e2 => ⟨⟨_, rfl⟩, e'.trans e2, fun j hj => ?_⟩
        · have z : rgt ns (1 + (i : Int)) = false := by simpa using z
          have o := offN_at (show i < ns.length / 2 by omega) z hg
          refine s_retI (ei_make (f := "number") (by walk_at "ev")) fun p dx H3 hp e3 h3 => k _ H3 ((e'.trans e2).trans e3) (.inr ⟨o.2, p, dx, rfl, ?_⟩)
          rw [o.1]
          exact h3
        · have z : rgt ns (1 + (i : Int)) = true := by simpa using z
          by_cases e : j = i
          · rw [e]; exact z
          · exact hg j (by omega)
      · rintro σ' H' ⟨⟨y, rfl⟩, e', hg⟩
        refine s_retI ei_new fun p dx H3 hp e3 h3 => k _ H3 (e'.trans e3) (.inl ⟨?_, p, dx, rfl, h3⟩)
        unfold good
        exact List.all_eq_true.mpr fun i hi => hg i (by have := List.mem_range.mp hi; omega)
    · exact ⟨_, rfl, _, rfl, .inr ⟨hb, k⟩⟩
theorem v_told {T : Tx K mg} {a : Addr} {ns : List Int} {H : Hp} (hs : SqL K H a (ns.map V.int)) (hl : RowLen ns.length) : SpQ (sp_told T) [.ref a] H (IsA T ns) := fun _ e _ q _ => ⟨_, rfl, .inl ⟨a, ns, rfl, ex_l e hs, hl, q⟩⟩
end
end PA

set_option Elab.async false
set_option linter.all false
set_option maxRecDepth 100000
set_option maxHeartbeats 4000000
namespace PA
open PySem PySem.Spec PyProof.Rows L2 Evl
local macro_rules | `(tactic| walk_at "ev") => `(tactic| repeat' (first | (with_reducible exact ev_c) | (with_reducible refine' ev_var ?_) | (show _ = some (some _); rfl) | (with_reducible exact ea_nil) | (with_reducible refine' ea_cons ?_ ?_) | (with_reducible refine' ev_abs ?_) | (with_reducible refine' ev_op ?_ ?_ ?_) | (with_reducible exact rv_I0) | (exact rv_mulL (by decide)) | (exact rv_mulR (by decide)) | (exact rv_div (by decide)) | (exact rv_mod (by decide)) | (exact rv_pow (by decide)) | (with_reducible refine' ev_un ?_ ?_) | (with_reducible exact ru_neg) | (exact rv_eq rfl) | (exact rv_ne rfl) | (with_reducible refine' et_test ?_) | (with_reducible refine' et_B ?_) | (exact ev_c) | (exact rv_I0) | (exact ru_neg) | (exact ea_nil) | (refine' ea_cons ?_ ?_)))
section
variable {P : Program} {w : World} {K : PySem.W.Frag} {mg : Str → Option Value} {base : Heap}
/-! ### Can.shows, Barred.shows -/
def sp_Can_shows : Sp := fun vs H Q _ => ∃ (p : Addr) (n : Int), vs = [.ref p, .int n] ∧ RetV (.bl (decide (n % 4 < 2))) H Q
theorem ok_Can_shows (T : Tx K mg) : FnOk P w K mg base CX0 1 T.a_Can_shows T.d_Can_shows ["self", "last"] sp_Can_shows := by
  refine T.F_Can_shows.ok sc_Can_shows (fun vs H Q E h => ?_) (fun cdv A outer s H vs Q E hr h => ?_)
  · obtain ⟨p, n, rfl, _⟩ := h
    rfl
  · obtain ⟨p, n, rfl, k⟩ := h
    refine ⟨_, (pss_one (ps_ret (pe_cmpR op_lt (pe_op op_mod (pv 1) pe_int) pe_int (nomark _)))), ?_⟩
    exact s_ret (by walk_at "ev") fun H1 e1 => k H1 e1
theorem v_Can_shows {p : Addr} {n : Int} {H : Hp} : SpV sp_Can_shows [.ref p, .int n] H (.bl (decide (n % 4 < 2))) := fun _ _ _ q _ => ⟨p, n, rfl, q⟩
def sp_Barred_shows : Sp := fun vs H Q _ => ∃ (p : Addr) (n : Int), vs = [.ref p, .int n] ∧ RetV (.bl (!decide (n % 4 < 2))) H Q
theorem ok_Barred_shows (T : Tx K mg) : FnOk P w K mg base CX0 1 T.a_Barred_shows T.d_Barred_shows ["self", "last"] sp_Barred_shows := by
  refine T.F_Barred_shows.ok sc_Barred_shows (fun vs H Q E h => ?_) (fun cdv A outer s H vs Q E hr h => ?_)
  · obtain ⟨p, n, rfl, _⟩ := h
    rfl
  · obtain ⟨p, n, rfl, k⟩ := h
    refine ⟨_, (pss_one (ps_ret (pe_cmpR op_gt (pe_op op_mod (pv 1) pe_int) pe_int (nomark _)))), ?_⟩
    refine s_ret (ev_is (by walk_at "ev") ?_) fun H1 e1 => k H1 e1
    have : decide (1 < n % 4) = !decide (n % 4 < 2) := by
      by_cases h : n % 4 < 2
      · rw [decide_eq_true h, decide_eq_false (by omega)]; rfl
      · rw [decide_eq_false h, decide_eq_true (by omega)]; rfl
    rw [this]
theorem v_Barred_shows {p : Addr} {n : Int} {H : Hp} : SpV sp_Barred_shows [.ref p, .int n] H (.bl (!decide (n % 4 < 2))) := fun _ _ _ q _ => ⟨p, n, rfl, q⟩
end
end PA

set_option Elab.async false
set_option linter.all false
set_option maxRecDepth 100000
set_option maxHeartbeats 4000000
namespace PA
open PySem PySem.Spec PyProof.Rows L2 Evl
local macro_rules | `(tactic| walk_at "ev") => `(tactic| repeat' (first | (with_reducible exact ev_c) | (with_reducible refine' ev_var ?_) | (show _ = some (some _); rfl) | (with_reducible exact ea_nil) | (with_reducible refine' ea_cons ?_ ?_) | (with_reducible refine' ev_abs ?_) | (with_reducible refine' ev_op ?_ ?_ ?_) | (with_reducible exact rv_I0) | (exact rv_mulL (by decide)) | (exact rv_mulR (by decide)) | (exact rv_div (by decide)) | (exact rv_mod (by decide)) | (exact rv_pow (by decide)) | (with_reducible refine' ev_un ?_ ?_) | (with_reducible exact ru_neg) | (exact rv_eq rfl) | (exact rv_ne rfl) | (with_reducible refine' et_test ?_) | (with_reducible refine' et_B ?_) | (exact ev_c) | (exact rv_I0) | (exact ru_neg) | (exact ea_nil) | (refine' ea_cons ?_ ?_)))
section
variable {P : Program} {w : World} {K : PySem.W.Frag} {mg : Str → Option Value} {base : Heap}
/-! ### what can tells -/
/-- p is a new Can or a new Barred -/
def IsB (T : Tx K mg) (b : Bool) (p : Addr) (H : Hp) : Prop := ∃ dx, H p = some (.ins (if b then T.c_Can else T.c_Barred) dx [])
theorem IsB.ex {T : Tx K mg} {b : Bool} {p : Addr} {H H' : Hp} (e : Ex H H') (h : IsB T b p H) : IsB T b p H' := by
  obtain ⟨dx, h⟩ := h
  exact ⟨dx, e _ _ h⟩
theorem ev_isB {T : Tx K mg} {b r1 r0 : Bool} {p c : Addr} {σ : L2.St} {H : Hp} {ta : TE} (hv : Ev ta σ H (.ref p)) (h : IsB T b p H) (k1 : PySem.W.kitOne K (.ref T.c_Can) (.ref c) = some r1) (k0 : PySem.W.kitOne K (.ref T.c_Barred) (.ref c) = some r0) :
    Ev (tCB (rIsi K) (tCons ta (tCons (tC (.ref c)) tNil))) σ H (.bl (if b then r1 else r0)) := by
  obtain ⟨dx, h⟩ := h
  cases b with
  | true => exact ev_isi (ea_cons hv (ea_cons ev_c ea_nil)) (.own c) (T.i_Can.ty h) k1
  | false => exact ev_isi (ea_cons hv (ea_cons ev_c ea_nil)) (.own c) (T.i_Barred.ty h) k0
theorem ev_shw {T : Tx K mg} {b : Bool} {p : Addr} {n : Int} {σ : L2.St} {H : Hp} {ta ta' : TE} {t t' : TA} {E E' : XK} (hv : Ev ta σ H (.ref p)) (hv' : Ev ta' σ H (.ref p)) (h : IsB T b p H) (ha : EvA t σ H [.int n]) (ha' : EvA t' σ H [.int n]) :
    Ev (fun σ H Q => tMeth T.c_Can "shows" sp_Can_shows [] E ta t σ H Q ∨ tMeth T.c_Barred "shows" sp_Barred_shows [] E' ta' t' σ H Q) σ H (.bl (decide (n % 4 < 2) == b)) := by
  obtain ⟨dx, h⟩ := h
  cases b with
  | true => exact ev_is (ev_orL (ev_methV h hv rfl ha v_Can_shows)) (by simp)
  | false => exact ev_is (ev_orR (ev_methV h hv' rfl ha' v_Barred_shows)) (by simp)
theorem eq_can {T : Tx K mg} {n : Int} {σ : L2.St} {H : Hp} {t : TA} {E : XK} (ha : EvA t σ H [.int n]) (h1 : 1 ≤ n) : EvQ (tCall (sp_can T) [] E t) σ H (fun v H => ∃ p, v = .ref p ∧ IsB T (decide (n % 4 < 2)) p H) := fun H1 e Q q => by
  by_cases hb : n % 4 < 2
  · rw [decide_eq_true hb] at q
    exact ei_call ha (v_can1 h1 hb) H1 e _ fun p dx H2 _ e2 h2 => q _ H2 e2 ⟨p, rfl, dx, h2⟩
  · rw [decide_eq_false hb] at q
    exact ei_call ha (v_can0 h1 hb) H1 e _ fun p dx H2 _ e2 h2 => q _ H2 e2 ⟨p, rfl, dx, h2⟩
end
end PA

set_option Elab.async false
set_option linter.all false
set_option maxRecDepth 100000
set_option maxHeartbeats 4000000
namespace PA
open PySem PySem.Spec PyProof.Rows L2 Evl LamX NdefX
local macro_rules | `(tactic| walk_at "ev") => `(tactic| repeat' (first | (with_reducible exact ev_c) | (with_reducible refine' ev_var ?_) | (show _ = some (some _); rfl) | (with_reducible exact ea_nil) | (with_reducible refine' ea_cons ?_ ?_) | (with_reducible refine' ev_abs ?_) | (with_reducible refine' ev_op ?_ ?_ ?_) | (with_reducible exact rv_I0) | (exact rv_mulL (by decide)) | (exact rv_mulR (by decide)) | (exact rv_div (by decide)) | (exact rv_mod (by decide)) | (exact rv_pow (by decide)) | (with_reducible refine' ev_un ?_ ?_) | (with_reducible exact ru_neg) | (exact rv_eq rfl) | (exact rv_ne rfl) | (with_reducible refine' et_test ?_) | (with_reducible refine' et_B ?_) | (exact ev_c) | (exact rv_I0) | (exact ru_neg) | (exact ea_nil) | (refine' ea_cons ?_ ?_)))
section
variable {P : Program} {w : World} {K : PySem.W.Frag} {mg : Str → Option Value} {base : Heap}
theorem dint (a b : Int) : decide (V.int a = V.int b) = decide (a = b) := decide_eq_decide.mpr ⟨fun h => V.int.inj h, fun h => by rw [h]⟩
theorem rv_eqB {H : Hp} {a b : Addr} {ns ms : List Bool} (ha : SqL K H a (ns.map V.bl)) (hb : SqL K H b (ms.map V.bl)) : RV (rEqD K) (.ref a) (.ref b) H (.bl (decide (ns = ms))) := fun H1 e Q q =>
  ⟨_, _, .lst (ex_l e ha) (dpAll_bools ns), .lst (ex_l e hb) (dpAll_bools ms), shp_bools _, shp_bools _, by
    rw [show PyData.eqv (.list (ns.map PyData.bool)) (.list (ms.map PyData.bool)) = decide (ns = ms) from eqvAll_bools ns ms]
    exact q H1 (Ex.refl H1)⟩
/-! ### _law_refused -/
/-- the class at C is the d-th one -/
def Refd (T : Tx K mg) (C : Addr) (d : Int) : Prop := (C = T.c_BadLast ∧ d = 0) ∨ (C = T.c_NoRow ∧ d = 1) ∨ (C = T.c_BadNumber ∧ d = 2) ∨ (C = T.c_BadPlace ∧ d = 3) ∨ (C = T.c_BadRow ∧ d = 4)
abbrev isr (K : PySem.W.Frag) (C a : Addr) (c : V) : TE := tCB (rIsG K (.ref C) none a) (tCons (tVar 3) (tCons (tC c) tNil))
theorem suiteR (T : Tx K mg) {C a : Addr} {σ : L2.St} {H : Hp} {D : Ends} {d : Int} {b0 b1 b2 b3 b4 : Bool} (hC : ExcC K C) (k0 : PySem.W.kitOne K (.ref C) (.ref T.c_BadLast) = some b0) (k1 : PySem.W.kitOne K (.ref C) (.ref T.c_NoRow) = some b1) (k2 : PySem.W.kitOne K (.ref C) (.ref T.c_BadNumber) = some b2)
    (k3 : PySem.W.kitOne K (.ref C) (.ref T.c_BadPlace) = some b3) (k4 : PySem.W.kitOne K (.ref C) (.ref T.c_BadRow) = some b4) (kv : PySem.W.kitOne K (.ref C) (.type "ValueError") = some true) (hs : ∃ x0 x1 x4 x5, σ = [x0, x1, some (.int d), some (.ref a), x4, x5])
    (hb : [b0, b1, b2, b3, b4] = [decide (((0 : Nat) : Int) = d), decide (((1 : Nat) : Int) = d), decide (((2 : Nat) : Int) = d), decide (((3 : Nat) : Int) = d), decide (((4 : Nat) : Int) = d)]) (k : ∀ H2, Ex H H2 → D.rt (.bl true) H2) :
    tSeq (tAsg (tLst (tCons (isr K C a (.ref T.c_BadLast)) (tCons (isr K C a (.ref T.c_NoRow)) (tCons (isr K C a (.ref T.c_BadNumber)) tNil)))) (gName 4)) (tSeq (tAsg (tOp rCat (tVar 4) (tLst (tCons (isr K C a (.ref T.c_BadPlace)) (tCons (isr K C a (.ref T.c_BadRow)) tNil)))) (gName 4))
      (tRet (tAndV (tOp (rEqD K) (tVar 4) (tLc (iRng1 (tCons (tC (.int 5)) tNil)) (gName 5) tYes (tOp rEq (tVar 5) (tVar 2)) [5])) (isr K C a (.ty "ValueError"))))) D σ H := by
  obtain ⟨x0, x1, x4, x5, rfl⟩ := hs
  refine q_asgL (el_lst (ea_cons (ev_isG hC (ev_var rfl) ev_c (fun _ h => h) k0) (ea_cons (ev_isG hC (ev_var rfl) ev_c (fun _ h => h) k1) (ea_cons (ev_isG hC (ev_var rfl) ev_c (fun _ h => h) k2) ea_nil))) (by show 3 ≤ 100000; decide)) fun p H1 hp e1 h1 => ?_
  refine q_asgL (el_cat (at_old (ev_var rfl) h1) (at_new (el_lst (ea_cons (ev_isG hC (ev_var rfl) ev_c (fun _ h => h) k3) (ea_cons (ev_isG hC (ev_var rfl) ev_c (fun _ h => h) k4) ea_nil)) (by show 2 ≤ 100000; decide))) (by show 5 ≤ 100000; decide)) fun p2 H2 hp2 e2 h2 => ?_
  have h2 : H2 p2 = some (.lst ([b0, b1, b2, b3, b4].map V.bl)) := h2
  rw [hb] at h2
  refine s_ret (ev_is (ev_andV (ev_opL (ev_var rfl) (xs := [decide (((0 : Nat) : Int) = d), decide (((1 : Nat) : Int) = d), decide (((2 : Nat) : Int) = d), decide (((3 : Nat) : Int) = d), decide (((4 : Nat) : Int) = d)].map V.bl) (el_lcR1 (n := 5) (fun _ => true) (fun i => .bl (decide ((i : Int) = d))) (by walk_at "ev") (by decide) (fun _ => rfl) (fun _ _ _ _ => et_yes) fun i H3 e3 hi _ => ev_is (ev_op (ev_var rfl) (ev_var rfl) (rv_eq rfl)) (by rw [dint])) fun q H3 hq e3 => rv_eqB (ex_l e3 (sq_of h2)) (sq_of hq)) fun _ => ev_isG hC (ev_var rfl) ev_c (fun _ h => h) kv) ?_) fun H3 e3 => k H3 ((e1.trans e2).trans e3)
  rw [decide_eq_true rfl]
  rfl
/-- the lambda at f, asked with v, lets out an error of the class at C -/
def Asks (P : Program) (w : World) (base : Heap) (T : Tx K mg) (f : Addr) (v : V) (C : Addr) (h : Heap) (H : Hp) : Prop := ∃ (F : LF) (ps fr : List Str) (ws : List (Option V)) (sp : List (Option V) → Sp), H f = some (LamO f F) ∧ H F.c = some (CodeO F.c F.qual) ∧
  LOk P w K mg base (L2N.CX P w) 6 f F ps fr sp ∧ CellsAt F.cl fr ws h H ∧ ∀ Q E, Err C H E → sp ws [v] H Q E
def sp__law_refused (P : Program) (w : World) (base : Heap) (T : Tx K mg) (h : Heap) : Sp := fun vs H Q _ => ∃ (f : Addr) (v : V) (d : Int) (C : Addr), vs = [.ref f, v, .int d] ∧ Asks P w base T f v C h H ∧ Refd T C d ∧ RetV (.bl true) H Q
theorem ok__law_refused (T : Tx K mg) : FnOkS P w K mg base CX0 7 T.a__law_refused T.d__law_refused ["_law_ask", "_law_thing", "_law_due"] (sp__law_refused P w base T) := by
  refine okS T.F__law_refused sc__law_refused (fun h vs H Q E h => ?_) (fun cdv A outer s H vs Q E hr h => ?_)
  · obtain ⟨f, v, d, C, rfl, _⟩ := h
    rfl
  · obtain ⟨f, v, d, C, rfl, ⟨F, ps, fr, ws, sp, hf, hc, hL, hC, hsp⟩, hd, k⟩ := h
    refine ⟨_, (pss_cons (L2N.ps_try_as (i := 3) (Wout := fun _ _ _ _ => False) rfl rfl sc__law_refused.nd rfl rfl ⟨rfl, by decide, Or.inl T.g_PairError⟩ takes0N
      (fun W pn xe tk _ => (pss_one (ps_expr (pe_callV (CX := L2N.CX P w) (P := P) (w := w) (K := K) (mg := mg) (base := base) (h0 := s.heap) (H0 := H) rfl rfl rfl rfl rfl rfl rfl (j := 6) (k := 6) (i := 0) (hr.mono (by decide)) (Nat.le_refl _) rfl (fun σ => L2N.passAt tk σ) rfl (Or.inl rfl) (pa_cons (pv 1) pa_nil)))))
      (fun a oe cls d pn hz hf => (pss_cons (ps_set (i := 4) sc__law_refused.nd rfl (.inl rfl) (pe_lst (pa_cons (pe_callB (r := rIsG K cls d a) (call_isG hz.zc hf) (by rfl) T.m_isinstance bt_isinstance (pa_cons (pv 3) (pa_cons (pe_glob (v := .ref T.c_BadLast) (by rfl) T.g_BadLast rfl) pa_nil))) (pa_cons (pe_callB (r := rIsG K cls d a) (call_isG hz.zc hf) (by rfl) T.m_isinstance bt_isinstance (pa_cons (pv 3) (pa_cons (pe_glob (v := .ref T.c_NoRow) (by rfl) T.g_NoRow rfl) pa_nil))) (pa_cons (pe_callB (r := rIsG K cls d a) (call_isG hz.zc hf) (by rfl) T.m_isinstance bt_isinstance (pa_cons (pv 3) (pa_cons (pe_glob (v := .ref T.c_BadNumber) (by rfl) T.g_BadNumber rfl) pa_nil))) pa_nil)))))
      (pss_cons (ps_set (i := 4) sc__law_refused.nd rfl (.inl rfl) (pe_op op_cat (pv 4) (pe_lst (pa_cons (pe_callB (r := rIsG K cls d a) (call_isG hz.zc hf) (by rfl) T.m_isinstance bt_isinstance (pa_cons (pv 3) (pa_cons (pe_glob (v := .ref T.c_BadPlace) (by rfl) T.g_BadPlace rfl) pa_nil))) (pa_cons (pe_callB (r := rIsG K cls d a) (call_isG hz.zc hf) (by rfl) T.m_isinstance bt_isinstance (pa_cons (pv 3) (pa_cons (pe_glob (v := .ref T.c_BadRow) (by rfl) T.g_BadRow rfl) pa_nil))) pa_nil)))))
      (pss_one (ps_ret (pe_and (pe_cmpR (r := rEqD K) (op_eqD hr.units) (pv 4) (pe_lcH (own := [("_law_kind", 5)]) (hot_suite hz hf) sc__law_refused.nd (L2H.pi_range1H (by rfl) T.m_range (pa_cons pe_int pa_nil)) (blkOk_by (own := [("_law_kind", 5)]) (N := N__law_refused) (sc := defScope s__law_refused) (by decide +kernel)) (fun _ _ _ _ _ => (pg_name (i := 5) sc__law_refused.nd rfl (Or.inl rfl))) (fun _ _ _ _ _ => pts_nil) (fun _ _ _ _ _ => (pe_cmpR op_eq (pv 5) (pv 2) (nomark _)))) (nomark _)) (pe_one (pe_callB (r := rIsG K cls d a) (call_isG hz.zc hf) (by rfl) T.m_isinstance bt_isinstance (pa_cons (pv 3) (pa_cons (pe_bltn (v := .ty "ValueError") (by rfl) T.m_ValueError bt_ValueError rfl) pa_nil)))))))))))
      (pss_one (ps_ret pe_bl))), ?_⟩
    refine ⟨f, F, ps, fr, ws, sp, rfl, hf, hL, hC, v, rfl, hf, hc, hsp _ _ fun H1 e1 => ?_⟩
    rcases hd with ⟨rfl, rfl⟩ | ⟨rfl, rfl⟩ | ⟨rfl, rfl⟩ | ⟨rfl, rfl⟩ | ⟨rfl, rfl⟩
    · exact ⟨true, T.em_BadLast, fun _ a0 _ => suiteR T T.y_BadLast T.ke_BadLast_BadLast T.ke_BadLast_NoRow T.ke_BadLast_BadNumber T.ke_BadLast_BadPlace T.ke_BadLast_BadRow T.kv_BadLast ⟨_, _, _, _, rfl⟩ (by decide) fun H2 e2 => k H2 (e1.trans e2), fun z => nomatch z⟩
    · exact ⟨true, T.em_NoRow, fun _ a0 _ => suiteR T T.y_NoRow T.ke_NoRow_BadLast T.ke_NoRow_NoRow T.ke_NoRow_BadNumber T.ke_NoRow_BadPlace T.ke_NoRow_BadRow T.kv_NoRow ⟨_, _, _, _, rfl⟩ (by decide) fun H2 e2 => k H2 (e1.trans e2), fun z => nomatch z⟩
    · exact ⟨true, T.em_BadNumber, fun _ a0 _ => suiteR T T.y_BadNumber T.ke_BadNumber_BadLast T.ke_BadNumber_NoRow T.ke_BadNumber_BadNumber T.ke_BadNumber_BadPlace T.ke_BadNumber_BadRow T.kv_BadNumber ⟨_, _, _, _, rfl⟩ (by decide) fun H2 e2 => k H2 (e1.trans e2), fun z => nomatch z⟩
    · exact ⟨true, T.em_BadPlace, fun _ a0 _ => suiteR T T.y_BadPlace T.ke_BadPlace_BadLast T.ke_BadPlace_NoRow T.ke_BadPlace_BadNumber T.ke_BadPlace_BadPlace T.ke_BadPlace_BadRow T.kv_BadPlace ⟨_, _, _, _, rfl⟩ (by decide) fun H2 e2 => k H2 (e1.trans e2), fun z => nomatch z⟩
    · exact ⟨true, T.em_BadRow, fun _ a0 _ => suiteR T T.y_BadRow T.ke_BadRow_BadLast T.ke_BadRow_NoRow T.ke_BadRow_BadNumber T.ke_BadRow_BadPlace T.ke_BadRow_BadRow T.kv_BadRow ⟨_, _, _, _, rfl⟩ (by decide) fun H2 e2 => k H2 (e1.trans e2), fun z => nomatch z⟩
/-- the same, told by the names that the running def holds -/
def sqR (T : Tx K mg) (X : Cx) (σ : L2.St) : Sp := fun vs H Q _ => ∃ (f : Addr) (v : V) (d : Int) (C : Addr) (F : LF) (ps fr : List Str) (js : List Nat) (sp : List (Option V) → Sp), vs = [.ref f, v, .int d] ∧ H f = some (LamO f F) ∧ H F.c = some (CodeO F.c F.qual) ∧
  LOk X.prog X.w K mg X.base (L2N.CX X.prog X.w) 6 f F ps fr sp ∧ (X.Ok → Caps X F.cl fr js) ∧ (∀ Q E, Err C H E → sp (js.map (slotAt σ)) [v] H Q E) ∧ Refd T C d ∧ RetV (.bl true) H Q
theorem ref_hs {X : Cx} (T : Tx K mg) (pins : List (Addr × Obj)) (σ : L2.St) (H : Hp) (s : Shared) (vs : List V) (Q : VK) (E : XK) (I : Inv X pins σ H s) (h : sqR T X σ vs H Q E) : sp__law_refused X.prog X.w X.base T s.heap vs H Q E := by
  obtain ⟨f, v, d, C, F, ps, fr, js, sp, e, hf, hc, hL, cp, hsp, hd, k⟩ := h
  exact ⟨f, v, d, C, e, ⟨F, ps, fr, _, sp, hf, hc, hL, cells_of I (cp I.ok), hsp⟩, hd, k⟩
/-- _law_refused(a lambda made here, what has Pv, d) -/
theorem eb_ref (T : Tx K mg) {X : Cx} {σ : L2.St} {H : Hp} {t2 t3 : TE} {E : XK} {q : Str} {Pt : Addr} {mk : Addr → LF} {Pv : V → Hp → Prop} {d : Int} {ps fr : List Str} {js : List Nat} {sp : List (Option V) → Sp} (C : Addr) (tab : TabS H Pt q) (hq : ∀ c', (mk c').qual = q) (hc : ∀ c', (mk c').c = c')
    (hL : ∀ f c', LOk X.prog X.w K mg X.base (L2N.CX X.prog X.w) 6 f (mk c') ps fr sp) (cp : ∀ c', X.Ok → Caps X (mk c').cl fr js) (st : Stab Pv) (h2 : ∀ H1, ExB Pt H H1 → EvQ t2 σ H1 Pv) (h3 : ∀ H1, Ev t3 σ H1 (.int d))
    (hsp : ∀ v H1, Pv v H1 → ∀ Q E, Err C H1 E → sp (js.map (slotAt σ)) [v] H1 Q E) (hd : Refd T C d) : EvB Pt q (tCallF (sqR T X) E (tCons (tLamV Pt q mk) (tCons t2 (tCons t3 tNil)))) σ H (.bl true) := fun Q k =>
  ⟨tab, fun f c' H1 e1 t1 hf h1 hcd => h2 H1 e1 H1 (Ex.refl _) _ fun v H2 e2 hv => h3 H2 H2 (Ex.refl _) _ fun H3 e3 =>
    ⟨f, v, d, C, mk c', ps, fr, js, sp, rfl, (e2.trans e3) _ _ h1, by rw [hc, hq]; exact (e2.trans e3) _ _ hcd, hL f c', cp c', hsp v H3 (st _ _ _ e3 hv), hd, fun H4 e4 => k H4 ((e1.trans (ExB.of (e2.trans e3))).trans (ExB.of e4)) (tabS_ex t1 ((e2.trans e3).trans e4))⟩⟩
end
end PA

set_option Elab.async false
set_option linter.all false
set_option maxRecDepth 100000
set_option maxHeartbeats 4000000
namespace PA
open PySem PySem.Spec PyProof.Rows L2 Evl LamX NdefX
local macro_rules | `(tactic| walk_at "ev") => `(tactic| repeat' (first | (with_reducible exact ev_c) | (with_reducible refine' ev_var ?_) | (show _ = some (some _); rfl) | (with_reducible exact ea_nil) | (with_reducible refine' ea_cons ?_ ?_) | (with_reducible refine' ev_abs ?_) | (with_reducible refine' ev_op ?_ ?_ ?_) | (with_reducible exact rv_I0) | (exact rv_mulL (by decide)) | (exact rv_mulR (by decide)) | (exact rv_div (by decide)) | (exact rv_mod (by decide)) | (exact rv_pow (by decide)) | (with_reducible refine' ev_un ?_ ?_) | (with_reducible exact ru_neg) | (exact rv_eq rfl) | (exact rv_ne rfl) | (with_reducible refine' et_test ?_) | (with_reducible refine' et_B ?_) | (exact ev_c) | (exact rv_I0) | (exact ru_neg) | (exact ea_nil) | (refine' ea_cons ?_ ?_)))
section
variable {P : Program} {w : World} {K : PySem.W.Frag} {mg : Str → Option Value} {base : Heap}
theorem inV_ints (x : Int) (ns : List Int) : inV (.int x) (ns.map V.int) = decide (x ∈ ns) := by
  unfold inV
  rw [List.any_map]
  by_cases h : x ∈ ns
  · rw [decide_eq_true h]
    refine List.any_eq_true.mpr ⟨x, h, ?_⟩
    show (x == x) = true
    exact beq_self_eq_true x
  · rw [decide_eq_false h]
    refine List.any_eq_false.mpr fun y hy => ?_
    show ¬ (y == x) = true
    intro z
    have := eq_of_beq z
    subst this
    exact h hy
theorem flat_ints (ns : List Int) : (ns.map V.int).all flatV = true := List.all_eq_true.mpr fun v hv => by
  obtain ⟨n, _, rfl⟩ := List.mem_map.mp hv
  rfl
/-! ### _law_great -/
theorem small_bits {x : Int} {m : Nat} (h : x.natAbs < 2 ^ m) : Builtin.Int.intBits x ≤ m := intBits_le_iff.mpr h
def sp__law_great : Sp := fun vs H Q _ => ∃ f : Int, vs = [.int f] ∧ 0 ≤ f ∧ f < 1000000000 ∧ ∀ g : Int, 1000 ≤ g → RetV (.int g) H Q
theorem ok__law_great (T : Tx K mg) : FnOk P w K mg base CX0 1 T.a__law_great T.d__law_great ["_law_far"] sp__law_great := by
  refine T.F__law_great.ok sc__law_great (fun vs H Q E h => ?_) (fun cdv A outer s H vs Q E hr h => ?_)
  · obtain ⟨f, rfl, _⟩ := h
    rfl
  · obtain ⟨f, rfl, f0, f1, k⟩ := h
    refine ⟨_, (pss_cons (ps_set (i := 1) sc__law_great.nd rfl (.inl rfl) (pe_op op_add (pe_op op_pow pe_int pe_int) (pv 0)))
      (pss_cons (ps_for PassesOwn.never rfl (pi_range1 (by rfl) T.m_range (pa_cons pe_int pa_nil)) (pg_name (i := 2) sc__law_great.nd rfl (Or.inl rfl))
      (pss_one (ps_set (i := 1) sc__law_great.nd rfl (.inl rfl) (pe_op op_mulX (pv 1) (pv 1)))))
      (pss_one (ps_ret (pv 1))))), ?_⟩
    have e10 : (10 : Int) ^ (64 : Int).toNat = 10000000000000000000000000000000000000000000000000000000000000000 := by decide +kernel
    refine q_asg (v := .int (10000000000000000000000000000000000000000000000000000000000000000 + f)) (ev_is (by walk_at "ev") (by rw [e10])) fun H1 e1 => ?_
    refine q_forR1 (n := 7) (by walk_at "ev") (by decide) (fun i σ' H' => (∃ (g : Int) (y : Option V), σ' = [some (.int f), some (.int g), y] ∧ 1000 ≤ g ∧ Builtin.Int.intBits g ≤ 216 * 2 ^ i) ∧ Ex H H') (fun H2 e2 => ⟨⟨_, _, rfl, by omega, ?_⟩, e1.trans e2⟩) ?_ ?_
    · refine small_bits ?_
      have : (2 : Nat) ^ (216 * 2 ^ 0) = 105312291668557186697918027683670432318895095400549111254310977536 := by decide +kernel
      rw [this]
      omega
    · rintro i σ' H' hi ⟨⟨g, y, rfl, hg, hb⟩, e'⟩
      have h7 : 216 * 2 ^ i ≤ 216 * 2 ^ 7 := Nat.mul_le_mul_left _ (Nat.pow_le_pow_right (by decide) (by omega))
      have e7 : 216 * 2 ^ 7 = 27648 := by decide
      refine s_asg (v := .int (g * g)) (ev_op (ev_var rfl) (ev_var rfl) (rv_mulX hb hb (by omega))) fun H2 e2 => ⟨⟨_, _, rfl, ?_, ?_⟩, e'.trans e2⟩
      · have := Int.mul_le_mul hg hg (by decide) (by omega)
        omega
      · rw [show 216 * 2 ^ (i + 1) = 216 * 2 ^ i + 216 * 2 ^ i by rw [Nat.pow_succ]; omega]
        exact intBits_mul_le hb hb
    · rintro σ' H' ⟨⟨g, y, rfl, hg, hb⟩, e'⟩
      exact s_ret (ev_var rfl) fun H2 e2 => k g hg H2 (e'.trans e2)
theorem v__law_great {f : Int} {H : Hp} (h0 : 0 ≤ f) (h1 : f < 1000000000) : SpQ sp__law_great [.int f] H (fun v _ => ∃ g : Int, v = .int g ∧ 1000 ≤ g) := fun _ _ _ q _ => ⟨f, rfl, h0, h1, fun g hg H2 e2 => q _ H2 e2 ⟨g, rfl, hg⟩⟩
/-! ### the law -/
def sp_law (T : Tx K mg) : Sp := fun vs H Q _ => ∃ (a : Addr) (ns : List Int), vs = [.ref a] ∧ SqL K H a (ns.map V.int) ∧ ns.length ≤ 63 ∧ (∀ z ∈ ns, Builtin.Int.intBits z ≤ 1048576) ∧ H T.p_law = some (.tbl #[]) ∧ ∀ H', Q (.bl true) H'
theorem stab_val {u : V} : Stab (fun v _ => v = u) := fun _ _ _ _ h => h
theorem long_off {g : Int} (hg : 1000 ≤ g) : good [g, g, 1, 1] = false := by
  have : rgt [g, g, 1, 1] 2 = false := by
    refine rgt_no ?_
    rw [← count_pos]
    have n2 : g ≠ 2 := by omega
    simp [List.count_cons, n2]
  cases e : good [g, g, 1, 1] with
  | false => rfl
  | true =>
    rw [good_iff.mp e 2 (by decide) (by show (2 : Int) ≤ ((4 / 2 : Nat) : Int); decide)] at this
    cases this
theorem ok_law (T : Tx K mg) (TB : TabB base mg T.q_law T.p_law) : FnOk P w K mg base CX0 8 T.a_law T.d_law ["_law_script"] (sp_law T) := by
  refine okC T.C_law sc_law (fun vs H Q E h => ?_) (fun A outer s H vs Q E hr h => ?_)
  · obtain ⟨a, ns, rfl, _⟩ := h
    rfl
  · obtain ⟨a, ns, rfl, hS, hlen, hbits, hT, k⟩ := h
    refine ⟨_, (pss_cons (ps_set (i := 1) sc_law.nd rfl (.inl rfl) (pe_callB call_abs (by rfl) T.m_abs bt_abs (pa_cons (pe_callB (r := rSum K) (cr_sum rfl) (by rfl) T.m_sum bt_sum (pa_cons (pe_slice (r := rSlL K) sl_list (pv 0) po_none (po_some pe_int)) pa_nil)) pa_nil)))
      (pss_cons (ps_set (i := 2) sc_law.nd rfl (.inl rfl) (pe_call (ok__law_great T) (hr.mono (by decide)) (by rfl) T.g__law_great T.F__law_great.kp T.b__law_great .nil pass0 (pa_cons (pe_op op_mod (pv 1) (pe_op op_pow pe_int pe_int)) pa_nil)))
      (pss_cons (ps_set (i := 3) sc_law.nd rfl (.inr rfl) (pe_op op_sub (pv 2) (pe_op op_mod (pv 2) pe_int)))
      (pss_cons (ps_for PassesOwn.never rfl (pi_list (pe_lst (pa_cons pe_int (pa_cons (pv 3) (pa_cons (pe_op op_fdiv (pv 3) pe_int) (pa_cons (pe_op op_add (pe_op op_mod (pv 1) (pv 3)) pe_int) (pa_cons (pe_op op_sub (pv 3) (pe_op op_mod (pv 1) pe_int)) pa_nil))))))) (pg_name (i := 4) sc_law.nd rfl (Or.inl rfl))
      (pss_cons (ps_set (i := 5) sc_law.nd rfl (.inl rfl) (pe_call (ok_places_of T) (hr.mono (by decide)) (by rfl) T.g_places_of T.F_places_of.kp T.b_places_of .nil passLN (pa_cons (pv 3) (pa_cons (pv 4) pa_nil))))
      (pss_cons (ps_if (PW.pt (pw_or (pt_cmpR op_ne (pe_op op_sub (pe_ix (r := rIxT K) ix_tup (pv 5) pe_int (fun _ _ => rfl)) (pe_ix (r := rIxT K) ix_tup (pv 5) pe_int (fun _ _ => rfl))) (pv 4) (nomark _)) (pw_or1 (pt_cmpR (r := rNeD K) (op_neD hr.units) (pe_lc (own := [("_law_place", 9)]) (by rfl) sc_law.nd (pi_tup (pv 5)) (blkOk_by (own := [("_law_place", 9)]) (N := N_law) (sc := defScope s_law) (by decide +kernel)) (fun _ _ _ _ _ => (pg_name (i := 9) sc_law.nd rfl (Or.inl rfl))) (fun _ _ _ _ _ => pts_nil) (fun _ _ _ _ _ => (pe_call (ok_number_at T) (hr.mono (by decide)) (by rfl) T.g_number_at T.F_number_at.kp T.b_number_at .nil passLN (pa_cons (pv 3) (pa_cons (pv 9) pa_nil))))) (pe_lst (pa_cons (pv 4) (pa_cons (pv 4) pa_nil))) (nomark _))))) (pss_one (ps_ret pe_bl)) pss_nil)
      (pss_cons (ps_set (i := 6) sc_law.nd rfl (.inl rfl) (pe_call (ok_three_of T) (hr.mono (by decide)) (by rfl) T.g_three_of T.F_three_of.kp T.b_three_of .nil passLN (pa_cons (pv 3) (pa_cons (pv 4) pa_nil))))
      (pss_one (ps_if (PW.pt (pw_or (pt_cmpR op_ne (pe_callB (r := rSum K) (cr_sum rfl) (by rfl) T.m_sum bt_sum (pa_cons (pe_slice (r := rSlL K) sl_list (pv 6) po_none (po_some pe_int)) pa_nil)) (pe_ix (r := rIxL K) ix_list (pv 6) pe_int (fun _ _ => rfl)) (nomark _)) (pw_or (pt_cmpR (r := rIn K true) op_notIn_seq (pv 4) (pv 6) (by rfl)) (pw_or1 (pt_not (pt_chainN pe_int (pch_link op_le (pe_ix (r := rIxT K) ix_tup (pv 5) pe_int (fun _ _ => rfl)) (pch_link op_lt (pe_ix (r := rIxT K) ix_tup (pv 5) pe_int (fun _ _ => rfl)) (pch_last op_lt (pe_op op_mul pe_int (pv 3))))))))))) (pss_one (ps_ret pe_bl)) pss_nil))))))
      (pss_cons (ps_for PassesOwn.never rfl (pi_range1 (by rfl) T.m_range (pa_cons pe_int pa_nil)) (pg_name (i := 7) sc_law.nd rfl (Or.inl rfl))
      (pss_cons (ps_set (i := 8) sc_law.nd rfl (.inl rfl) (pe_call (ok_can T) (hr.mono (by decide)) (by rfl) T.g_can T.F_can.kp T.b_can .nil passLN (pa_cons (pe_op op_add (pv 3) (pv 7)) pa_nil)))
      (pss_cons (ps_if (PW.pt (pw_or (pt_cmpR op_ne (pe_callB (r := rIsi K) call_isi (by rfl) T.m_isinstance bt_isinstance (pa_cons (pv 8) (pa_cons (pe_glob (v := .ref T.c_Can) (by rfl) T.g_Can rfl) pa_nil))) (pe_cmpR op_lt (pv 7) pe_int (nomark _)) (nomark _)) (pw_or1 (pt_cmpR op_ne (pe_callB (r := rIsi K) call_isi (by rfl) T.m_isinstance bt_isinstance (pa_cons (pv 8) (pa_cons (pe_glob (v := .ref T.c_Barred) (by rfl) T.g_Barred rfl) pa_nil))) (pe_cmpR op_gt (pv 7) pe_int (nomark _)) (nomark _))))) (pss_one (ps_ret pe_bl)) pss_nil)
      (pss_one (ps_if (pt_cmpR op_isnot_bl (PE.or (pe_meth (pv 8) T.i_Can.cl T.s_Can (ok_Can_shows T) (hr.mono (by decide)) T.b_Can_shows .nil pass0 (pa_cons (pe_op op_add (pv 3) (pv 7)) pa_nil)) (pe_meth (pv 8) T.i_Barred.cl T.s_Barred (ok_Barred_shows T) (hr.mono (by decide)) T.b_Barred_shows .nil pass0 (pa_cons (pe_op op_add (pv 3) (pv 7)) pa_nil))) pe_bl (nomark _)) (pss_one (ps_ret pe_bl)) pss_nil)))))
      (pss_cons (ps_if (pt_not (pt_val (pe_callF (ok__law_refused T) (hr.mono (by decide)) (by rfl) T.g__law_refused T.F__law_refused.kp T.b__law_refused pass0 (ref_hs T) (pa_cons (pe_lam (q := lamq "law" s_law) TB rfl rfl rfl (NdefX.ndef_free (sc := defScope s_law) (fr := ["_law_last"]) (by decide +kernel))) (pa_cons (pe_op op_add (pv 3) pe_int) (pa_cons pe_int pa_nil)))))) (pss_one (ps_ret pe_bl)) pss_nil)
      (pss_cons (ps_if (pt_not (pt_val (pe_callF (ok__law_refused T) (hr.mono (by decide)) (by rfl) T.g__law_refused T.F__law_refused.kp T.b__law_refused pass0 (ref_hs T) (pa_cons (pe_lam (q := lamq "law" s_law) TB rfl rfl rfl (NdefX.ndef_free (sc := defScope s_law) (fr := ["_law_last"]) (by decide +kernel))) (pa_cons (pe_op op_mul pe_int (pv 3)) (pa_cons pe_int pa_nil)))))) (pss_one (ps_ret pe_bl)) pss_nil)
      (pss_cons (ps_set (i := 8) sc_law.nd rfl (.inl rfl) (pe_call (ok_told T) (hr.mono (by decide)) (by rfl) T.g_told T.F_told.kp T.b_told .nil passLN (pa_cons (pe_lst (pa_cons (pv 2) (pa_cons (pv 2) (pa_cons pe_int (pa_cons pe_int pa_nil))))) pa_nil)))
      (pss_cons (ps_if (PW.pt (pw_or (pt_not (pt_val (pe_callB (r := rIsi K) call_isi (by rfl) T.m_isinstance bt_isinstance (pa_cons (pv 8) (pa_cons (pe_glob (v := .ref T.c_Off) (by rfl) T.g_Off rfl) pa_nil))))) (pw_or1 (pt_cmpR op_isnot_bl (pe_meth (pe_make T.n_Off (ok_Off___init__ T) (hr.mono (by decide)) (by rfl) T.g_Off T.b_Off___init__ .nil pass0 (pa_cons (pv 2) pa_nil)) T.i_Off.cl T.s_Off (ok_Off_shows T) (hr.mono (by decide)) T.b_Off_shows .nil pass0 (pa_cons (pe_lst (pa_cons pe_int (pa_cons pe_int pa_nil))) pa_nil) (ht := mcall_of (by first | rfl | exact abase_call (by decide)) (fun _ => rfl))) pe_bl (nomark _))))) (pss_one (ps_ret pe_bl)) pss_nil)
      (pss_cons (ps_if (pt_not (pt_val (pe_callF (ok__law_refused T) (hr.mono (by decide)) (by rfl) T.g__law_refused T.F__law_refused.kp T.b__law_refused pass0 (ref_hs T) (pa_cons (pe_lam (q := lamq "law" s_law) TB rfl rfl rfl (NdefX.ndef_free (sc := defScope s_law) (fr := []) (by decide +kernel))) (pa_cons (pe_un un_neg (pv 2)) (pa_cons pe_int pa_nil)))))) (pss_one (ps_ret pe_bl)) pss_nil)
      (pss_one (ps_ret (pe_callF (ok__law_refused T) (hr.mono (by decide)) (by rfl) T.g__law_refused T.F__law_refused.kp T.b__law_refused pass0 (ref_hs T) (pa_cons (pe_lam (q := lamq "law" s_law) TB rfl rfl rfl (NdefX.ndef_free (sc := defScope s_law) (fr := ["_law_last"]) (by decide +kernel))) (pa_cons pe_int (pa_cons pe_int pa_nil)))))))))))))))), ?_⟩
    have cut : cutV (ns.map V.int) none (some 63) = ns.map V.int := cut_all (by rw [List.length_map]; exact hlen)
    refine q_asg (v := .int (if ns.sum < 0 then -ns.sum else ns.sum)) (ev_abs (ev_cbL (xs := ns.map V.int) (el_is (el_sl (ev_var rfl) eo_none (eo_some ev_c) hS) cut) fun p H1 h1 e1 => rc_sum (sq_of h1))) fun H1 e1 => ?_
    generalize hwh : (if ns.sum < 0 then -ns.sum else ns.sum) = wh
    have w0 : 0 ≤ wh := by
      rw [← hwh]
      split <;> omega
    have e9 : (10 : Int) ^ (9 : Int).toNat = 1000000000 := by decide +kernel
    refine q_asgQ (eq_call (vs := [.int (wh % 10 ^ (9 : Int).toNat)]) (by walk_at "ev") (v__law_great (by rw [e9]; exact Int.emod_nonneg _ (by decide)) (by rw [e9]; exact Int.emod_lt_of_pos _ (by decide)))) fun v H2 e2 hv => ?_
    obtain ⟨g, rfl, hg⟩ := hv
    refine q_asg (v := .int (g - g % 4)) (by walk_at "ev") fun H3 e3 => ?_
    generalize hlq : g - g % 4 = l
    have lc : Can l := ⟨by omega, by omega⟩
    have l4 : l % 4 = 0 := by omega
    have l9 : 900 ≤ l := by omega
    have T3 : H3 T.p_law = some (.tbl #[]) := ((e1.trans e2).trans e3) _ _ hT
    have m1 := Int.emod_nonneg wh (show l ≠ 0 by omega)
    have m2 := Int.emod_lt_of_pos wh (show 0 < l by omega)
    have m3 := Int.emod_nonneg wh (show (99 : Int) ≠ 0 by decide)
    have m4 := Int.emod_lt_of_pos wh (show (0 : Int) < 99 by decide)
    change tSeq _ _ _ [some (.ref a), some (.int wh), some (.int g), some (.int l), none, none, none, none, none, none] _
    have stn : Stab (fun (v : V) (_ : Hp) => ∃ n : Int, v = .int n ∧ 1 ≤ n ∧ n ≤ l) := fun _ _ _ _ h => h
    refine q_forP (P := fun v _ => ∃ n : Int, v = .int n ∧ 1 ≤ n ∧ n ≤ l) (n := 5) stn (eap_cons stn (eq_val ev_c fun _ _ => ⟨1, rfl, by omega, by omega⟩) (eap_cons stn (eq_val (ev_var rfl) fun _ _ => ⟨l, rfl, by omega, by omega⟩) (eap_cons stn (eq_val (v := .int (l / 3)) (by walk_at "ev") fun _ _ => ⟨l / 3, rfl, by omega, by omega⟩)
      (eap_cons stn (eq_val (v := .int (wh % l + 1)) (ev_op (ev_op (ev_var rfl) (ev_var rfl) (rv_mod (by omega))) ev_c rv_I0) fun _ _ => ⟨_, rfl, by omega, by omega⟩) (eap_cons stn (eq_val (v := .int (l - wh % 99)) (by walk_at "ev") fun _ _ => ⟨_, rfl, by omega, by omega⟩) eap_nil))))) (by decide)
      (fun σ' => ∃ y4 y5 y6, σ' = [some (.ref a), some (.int wh), some (.int g), some (.int l), y4, y5, y6, none, none, none]) ⟨_, _, _, rfl⟩ ?_ ?_
    · rintro x σ' H' H0 e' e0 ⟨n, rfl, h1, h2⟩ ⟨y4, y5, y6, rfl⟩
      have fr := fst_rng lc h1 h2
      have na : num l (fst l n) = n := num_at lc ⟨⟨h1, h2⟩, .inl rfl⟩
      have nb : num l (fst l n + n) = n := num_at lc ⟨⟨h1, h2⟩, .inr rfl⟩
      refine q_asgU (eu_call (vs := [.int l, .int n]) (by walk_at "ev") (v_places_of (T := T) lc h1 h2)) fun c H4 hc e4 hC => ?_
      have bs : bas l n = n := bas_low h2
      have e3' : three l n = [n, l + fst l n + 1, l + fst l n + 1 + n] := by unfold three; rw [bs]
      generalize fst l n = f at *
      have ixT : ∀ (i : Nat) (v : Int) {H2 : Hp} {σ : L2.St}, Ex H4 H2 → σ[5]? = some (some (.ref c)) → ([f, f + n] : List Int)[i]? = some v → Ev (tOp (rIxT K) (tVar 5) (tC (.int i))) σ H2 (.int v) := fun i v H2 σ e hv hi => ev_op (ev_var hv) ev_c (rv_ixT (st_of (e _ _ hC)) (atI_nat (j := i) (by
        show (([f, f + n] : List Int).map V.int)[i]? = _
        rw [List.getElem?_map, hi]; rfl)))
      refine q_when (b := false) (et_is (et_or (et_test (ev_op (ev_op (ixT 1 _ (Ex.refl _) rfl rfl) (ixT 0 _ (Ex.refl _) rfl rfl) rv_I0) (ev_var rfl) (rv_ne rfl))) fun _ => et_test (ev_opLL (xs := ([n, n] : List Int).map V.int) (ys := ([n, n] : List Int).map V.int) (el_is (el_lcT (xs := ([f, f + n] : List Int).map V.int) (fun _ => true) (fun i => .int n) (ev_var rfl) (st_of hC) (by show 2 ≤ 40000; decide) (fun _ => rfl) (fun _ _ _ _ _ => et_yes) (fun i x H5 _ hi _ => ?_)) rfl) (el_lst (by walk_at "ev") (by show 2 ≤ 100000; decide)) fun p q H5 hp hq e5 => rv_neL (sq_of hp) (sq_of hq))) ?_) (fun z => nomatch z) fun _ H5 e5 => ?_
      · match i, hi with
        | 0, hi =>
          obtain rfl : V.int f = x := Option.some.inj hi
          exact ev_is (ev_call (vs := [.int l, .int f]) (by walk_at "ev") (v_number_at (T := T) lc fr.1 (by omega))) (by rw [na])
        | 1, hi =>
          obtain rfl : V.int (f + n) = x := Option.some.inj hi
          exact ev_is (ev_call (vs := [.int l, .int (f + n)]) (by walk_at "ev") (v_number_at (T := T) lc (by omega) fr.2)) (by rw [nb])
        | i + 2, hi => cases hi
      · rw [show f + n - f = n by omega]
        simp
      refine q_asgL (xs := ([n, l + f + 1, l + f + 1 + n] : List Int).map V.int) (el_is (el_call (vs := [.int l, .int n]) (by walk_at "ev") (v_three_of (T := T) lc h1 (by omega))) (by rw [e3'])) fun d H6 hd e6 hD => ?_
      have c6 : Ex H4 H6 := e5.trans e6
      refine s_when (b := false) (et_is (et_or (et_test (ev_op (ev_cbL (xs := ([n, l + f + 1] : List Int).map V.int) (el_is (el_sl (lo := none) (hi := some ((2 : Nat) : Int)) (ev_var rfl) eo_none (eo_some ev_c) (sq_of hD)) (cut_take _ 2)) fun p H7 h7 e7 => rc_sum (sq_of h7)) (ev_op (ev_var rfl) ev_c (rv_ixL (sq_of hD) (atI_nat (j := 2) rfl))) (rv_ne rfl))) fun _ => et_or (et_test (ev_op (ev_var rfl) (ev_var rfl) (rv_niL (sq_of hD) rfl (flat_ints _)))) fun _ =>
        et_not (et_chainN ev_c (et_link (ixT 0 _ c6 rfl rfl) rv_I0 fun _ => et_link (ixT 1 _ c6 rfl rfl) rv_I0 fun _ => et_last (by walk_at "ev") rv_I0))) ?_) (fun z => nomatch z) fun _ H7 e7 => ⟨⟨_, _, _, rfl⟩, (((e0.trans e4).trans e5).trans e6).trans e7⟩
      rw [inV_ints, decide_eq_true (show n ∈ ([n, l + f + 1, l + f + 1 + n] : List Int) from List.mem_cons_self), decide_eq_true fr.1, decide_eq_true (show f < f + n by omega), decide_eq_true fr.2]
      have es : ([n, l + f + 1] : List Int).sum = l + f + 1 + n := by
        simp only [List.sum_cons, List.sum_nil]
        omega
      rw [es]
      simp
    · rintro σ' H' e' ⟨y4, y5, y6, rfl⟩
      refine q_forR1S (n := 4) (by walk_at "ev") (by decide) (fun σ' => ∃ y4 y5 y6 y7 y8, σ' = [some (.ref a), some (.int wh), some (.int g), some (.int l), y4, y5, y6, y7, y8, none]) ⟨_, _, _, _, _, rfl⟩ ?_ ?_
      · rintro i σ' H'' H0 hi e2' e0 ⟨y4, y5, y6, y7, y8, rfl⟩
        refine q_asgQ (eq_can (T := T) (n := l + i) (by walk_at "ev") (by omega)) fun v H4 e4 hv => ?_
        obtain ⟨p, rfl, hp⟩ := hv
        have eb : decide ((l + (i : Int)) % 4 < 2) = decide ((i : Int) < 2) := decide_eq_decide.mpr ⟨fun h => by omega, fun h => by omega⟩
        have eb2 : decide ((1 : Int) < i) = !decide ((i : Int) < 2) := by
          by_cases h : (i : Int) < 2
          · rw [decide_eq_true h, decide_eq_false (by omega)]; rfl
          · rw [decide_eq_false h, decide_eq_true (by omega)]; rfl
        rw [eb] at hp
        generalize hb : decide ((i : Int) < 2) = b at hp
        refine q_when (b := false) (et_is (et_or (et_test (ev_op (ev_isB (ev_var rfl) hp T.kit_Can_Can T.kit_Barred_Can) (by walk_at "ev") (rv_ne rfl))) fun _ => et_test (ev_op (ev_isB (ev_var rfl) hp T.kit_Can_Barred T.kit_Barred_Barred) (by walk_at "ev") (rv_ne rfl))) (by rw [eb2, hb]; cases b <;> rfl)) (fun z => nomatch z) fun _ H5 e5 => ?_
        refine s_when (b := false) (et_is (et_test (ev_op (ev_shw (n := l + i) (ev_var rfl) (ev_var rfl) (hp.ex e5) (by walk_at "ev") (by walk_at "ev")) ev_c rv_isntB)) (by rw [eb, hb]; cases b <;> rfl)) (fun z => nomatch z) fun _ H6 e6 => ⟨⟨_, _, _, _, _, rfl⟩, ((e0.trans e4).trans e5).trans e6⟩
      · rintro σ' H'' e2' ⟨y4, y5, y6, y7, y8, rfl⟩
        have tab0 : TabS H'' T.p_law (lamq "law" s_law) := TabS.nil ((e'.trans e2') _ _ T3)
        refine qb_skip (eb_notB (eb_ref T (js := [3]) (ps := ["_law_one"]) (fr := ["_law_last"]) (Pv := fun v _ => v = .int (l + 1)) T.c_BadNumber tab0 (fun _ => rfl) (fun _ => rfl) (fun f c' => (lok_vx (x := "_law_one") (y := "_law_last") (ok_places_of T) T.g_places_of T.F_places_of.kp T.b_places_of (nscope_by (by dsimp only; decide +kernel)) rfl rfl (fun _ _ us hl => match us, hl with | [_], _ => rfl)).mono (by decide))
          (fun c' ok => Caps.made ok (ndef_free (sc := defScope s_law) (fr := []) (by decide +kernel)) (ndef_fr (sc := defScope s_law) (by decide +kernel)) rfl) stab_val (fun H1 _ => eq_val (by walk_at "ev") fun _ _ => rfl) (fun _ => ev_c)
          (fun v H1 hv Q E er => ⟨v, .int l, rfl, rfl, _, _, rfl, .inr (.inr ⟨l, rfl, lc, .inr ⟨_, hv, .inr (by omega)⟩, er⟩)⟩) (.inr (.inr (.inl ⟨rfl, rfl⟩))))) fun H4 e4 tab4 => ?_
        refine qb_skip (eb_notB (eb_ref T (js := [3]) (ps := ["_law_one"]) (fr := ["_law_last"]) (Pv := fun v _ => v = .int (2 * l)) T.c_BadPlace tab4 (fun _ => rfl) (fun _ => rfl) (fun f c' => (lok_vx (x := "_law_one") (y := "_law_last") (ok_number_at T) T.g_number_at T.F_number_at.kp T.b_number_at (nscope_by (by dsimp only; decide +kernel)) rfl rfl (fun _ _ us hl => match us, hl with | [_], _ => rfl)).mono (by decide))
          (fun c' ok => Caps.made ok (ndef_free (sc := defScope s_law) (fr := []) (by decide +kernel)) (ndef_fr (sc := defScope s_law) (by decide +kernel)) rfl) stab_val (fun H1 _ => eq_val (by walk_at "ev") fun _ _ => rfl) (fun _ => ev_c)
          (fun v H1 hv Q E er => ⟨v, .int l, rfl, rfl, _, _, rfl, .inr (.inr ⟨l, rfl, lc, .inr ⟨_, hv, .inr (by omega)⟩, er⟩)⟩) (.inr (.inr (.inr (.inl ⟨rfl, rfl⟩)))))) fun H5 e5 tab5 => ?_
        refine q_asgQ (eq_callL (xs := ([g, g, 1, 1] : List Int).map V.int) (el_lst (by walk_at "ev") (by show 4 ≤ 100000; decide)) fun p H6 _ hp => v_told (T := T) (sq_of hp) (show RowLen 4 by decide)) fun v H6 e6 hv => ?_
        rcases hv with ⟨hg', _⟩ | ⟨_, p, dx, rfl, hp⟩
        · rw [long_off hg] at hg'
          cases hg'
        refine q_when (b := false) (et_is (et_or (et_not (et_B (ev_isi (ea_cons (ev_var rfl) (ea_cons ev_c ea_nil)) (.own T.c_Off) (T.i_Off.ty hp) T.kit_Off_Off))) fun _ => et_test (ev_op (ev_methL (xs := ([1, 1] : List Int).map V.int) (ei_make (f := "number") (by walk_at "ev")) rfl (el_lst (by walk_at "ev") (by show 2 ≤ 100000; decide)) fun p dx q H1 _ hp hq => v_Off_shows (T := T) (n := g) hp (sq_of hq)) ev_c rv_isntB)) ?_) (fun z => nomatch z) fun _ H7 e7 => ?_
        · have : off [1, 1] g = false := by
            unfold off
            rw [decide_eq_false (p := g ≤ _) (by show ¬ g ≤ ((2 / 2 : Nat) : Int); omega), Bool.and_false, Bool.false_and]
          rw [this]
          rfl
        have tab7 := tabS_ex tab5 (e6.trans e7)
        refine qb_skip (eb_notB (eb_ref T (js := []) (ps := ["_law_one"]) (fr := []) (Pv := fun v _ => v = .int (-g)) T.c_BadLast tab7 (fun _ => rfl) (fun _ => rfl) (fun f c' => (lok_x (x := "_law_one") (ok_can T) T.g_can T.F_can.kp T.b_can (nscope_by (by dsimp only; decide +kernel)) rfl rfl (fun _ _ us hl => match us, hl with | [_], _ => rfl)).mono (by decide))
          (fun c' ok => Caps.made ok (ndef_free (sc := defScope s_law) (fr := []) (by decide +kernel)) (ndef_fr (sc := defScope s_law) (by decide +kernel)) rfl) stab_val (fun H1 _ => eq_val (by walk_at "ev") fun _ _ => rfl) (fun _ => ev_c)
          (fun v H1 hv Q E er => ⟨v, rfl, v, rfl, .inr ⟨.inr ⟨_, hv, by omega⟩, er⟩⟩) (.inl ⟨rfl, rfl⟩))) fun H8 e8 tab8 => ?_
        exact sb_ret (eb_ref T (js := [3]) (ps := ["_law_one"]) (fr := ["_law_last"]) (Pv := fun v _ => v = .int 1) T.c_NoRow tab8 (fun _ => rfl) (fun _ => rfl) (fun f c' => (lok_v2x (x := "_law_one") (y := "_law_last") (ok_places_of T) T.g_places_of T.F_places_of.kp T.b_places_of (nscope_by (by dsimp only; decide +kernel)) rfl rfl (fun _ _ us hl => match us, hl with | [_], _ => rfl)).mono (by decide))
          (fun c' ok => Caps.made ok (ndef_free (sc := defScope s_law) (fr := []) (by decide +kernel)) (ndef_fr (sc := defScope s_law) (by decide +kernel)) rfl) stab_val (fun H1 _ => eq_val (by walk_at "ev") fun _ _ => rfl) (fun _ => ev_c)
          (fun v H1 hv Q E er => ⟨v, l, rfl, rfl, _, _, rfl, .inr (.inl (.inr ⟨_, rfl, by omega, by omega, er⟩))⟩) (.inr (.inl ⟨rfl, rfl⟩))) fun H9 _ _ => k H9
end
end PA

set_option Elab.async false
set_option linter.all false
set_option maxRecDepth 100000
set_option maxHeartbeats 4000000
namespace PA
open PySem PySem.Spec PyProof.Rows L2 Evl
def all_tx {K : PySem.W.Frag} {h : Heap} {mg : Str → Option Value} {e_Answer e_Can e_Barred e_Good e_Off e_PairError e_BadLast e_BadNumber e_BadPlace e_BadRow e_NoRow f_Can_shows f_Barred_shows f_is_right f_Good_shows f_Off___init__ f_Off_shows f_is_number f_asked_last f_can f_asked_row f_first_by_fours f_first_by_ones f_first_of f_both f_places_of f_at_place f_number_at f_asked_list f_told f_three_by f_three_of f__law_refused f__law_great f_law q_law p_law e_FIRSTS e_F1 e_F4 e_F5 : Addr} {t_F1 t_F4 t_F5 t_Fa0 t_Fa1 t_Fa2 t_Fa3 t_Fa4 t_Fa5 t_Fa6 t_Fa7 t_Fa8 t_Fa9 t_MOST : Tok} (X : K.In h) (G : h.Ns mainGlobals mg)
    {oc_Can_shows kV_Can_shows dc_Can_shows pm_Can_shows cd_Can_shows ct_Can_shows : Value} {od_Can_shows an_Can_shows : Option Addr} {sl_Can_shows : Array (Option Value)}
    {oc_Barred_shows kV_Barred_shows dc_Barred_shows pm_Barred_shows cd_Barred_shows ct_Barred_shows : Value} {od_Barred_shows an_Barred_shows : Option Addr} {sl_Barred_shows : Array (Option Value)}
    {oc_is_right kV_is_right dc_is_right pm_is_right cd_is_right ct_is_right : Value} {od_is_right an_is_right : Option Addr} {sl_is_right : Array (Option Value)}
    {oc_Good_shows kV_Good_shows dc_Good_shows pm_Good_shows cd_Good_shows ct_Good_shows : Value} {od_Good_shows an_Good_shows : Option Addr} {sl_Good_shows : Array (Option Value)}
    {oc_Off___init__ kV_Off___init__ dc_Off___init__ pm_Off___init__ cd_Off___init__ ct_Off___init__ : Value} {od_Off___init__ an_Off___init__ : Option Addr} {sl_Off___init__ : Array (Option Value)}
    {oc_Off_shows kV_Off_shows dc_Off_shows pm_Off_shows cd_Off_shows ct_Off_shows : Value} {od_Off_shows an_Off_shows : Option Addr} {sl_Off_shows : Array (Option Value)}
    {oc_is_number kV_is_number dc_is_number pm_is_number cd_is_number ct_is_number : Value} {od_is_number an_is_number : Option Addr} {sl_is_number : Array (Option Value)}
    {oc_asked_last kV_asked_last dc_asked_last pm_asked_last cd_asked_last ct_asked_last : Value} {od_asked_last an_asked_last : Option Addr} {sl_asked_last : Array (Option Value)}
    {oc_can kV_can dc_can pm_can cd_can ct_can : Value} {od_can an_can : Option Addr} {sl_can : Array (Option Value)}
    {oc_asked_row kV_asked_row dc_asked_row pm_asked_row cd_asked_row ct_asked_row : Value} {od_asked_row an_asked_row : Option Addr} {sl_asked_row : Array (Option Value)}
    {oc_first_by_fours kV_first_by_fours dc_first_by_fours pm_first_by_fours cd_first_by_fours ct_first_by_fours : Value} {od_first_by_fours an_first_by_fours : Option Addr} {sl_first_by_fours : Array (Option Value)}
    {oc_first_by_ones kV_first_by_ones dc_first_by_ones pm_first_by_ones cd_first_by_ones ct_first_by_ones : Value} {od_first_by_ones an_first_by_ones : Option Addr} {sl_first_by_ones : Array (Option Value)}
    {oc_first_of kV_first_of dc_first_of pm_first_of cd_first_of ct_first_of : Value} {od_first_of an_first_of : Option Addr} {sl_first_of : Array (Option Value)}
    {oc_both kV_both dc_both pm_both cd_both ct_both : Value} {od_both an_both : Option Addr} {sl_both : Array (Option Value)}
    {oc_places_of kV_places_of dc_places_of pm_places_of cd_places_of ct_places_of : Value} {od_places_of an_places_of : Option Addr} {sl_places_of : Array (Option Value)}
    {oc_at_place kV_at_place dc_at_place pm_at_place cd_at_place ct_at_place : Value} {od_at_place an_at_place : Option Addr} {sl_at_place : Array (Option Value)}
    {oc_number_at kV_number_at dc_number_at pm_number_at cd_number_at ct_number_at : Value} {od_number_at an_number_at : Option Addr} {sl_number_at : Array (Option Value)}
    {oc_asked_list kV_asked_list dc_asked_list pm_asked_list cd_asked_list ct_asked_list : Value} {od_asked_list an_asked_list : Option Addr} {sl_asked_list : Array (Option Value)}
    {oc_told kV_told dc_told pm_told cd_told ct_told : Value} {od_told an_told : Option Addr} {sl_told : Array (Option Value)}
    {oc_three_by kV_three_by dc_three_by pm_three_by cd_three_by ct_three_by : Value} {od_three_by an_three_by : Option Addr} {sl_three_by : Array (Option Value)}
    {oc_three_of kV_three_of dc_three_of pm_three_of cd_three_of ct_three_of : Value} {od_three_of an_three_of : Option Addr} {sl_three_of : Array (Option Value)}
    {oc__law_refused kV__law_refused dc__law_refused pm__law_refused cd__law_refused ct__law_refused : Value} {od__law_refused an__law_refused : Option Addr} {sl__law_refused : Array (Option Value)}
    {oc__law_great kV__law_great dc__law_great pm__law_great cd__law_great ct__law_great : Value} {od__law_great an__law_great : Option Addr} {sl__law_great : Array (Option Value)}
    {oc_law kV_law dc_law pm_law ct_law : Value} {od_law an_law : Option Addr} {sl_law : Array (Option Value)}
    {ce_law : Value} {cdd_law : Option Addr} {cv_law : Array Value} {cs_law : Array (Option Value)}
    {n_F n_F1 n_F4 n_F5 : Nat} {dd_F1 dd_F4 dd_F5 : Option Addr} {ss_F1 ss_F4 ss_F5 : Array (Option Value)}
    (z_Answer : PySem.W.nsIn K mainGlobals "Answer" = some (some (.ref e_Answer)))
    (z_Can : PySem.W.nsIn K mainGlobals "Can" = some (some (.ref e_Can)))
    (z_Barred : PySem.W.nsIn K mainGlobals "Barred" = some (some (.ref e_Barred)))
    (z_Good : PySem.W.nsIn K mainGlobals "Good" = some (some (.ref e_Good)))
    (z_Off : PySem.W.nsIn K mainGlobals "Off" = some (some (.ref e_Off)))
    (z_PairError : PySem.W.nsIn K mainGlobals "PairError" = some (some (.ref e_PairError)))
    (z_BadLast : PySem.W.nsIn K mainGlobals "BadLast" = some (some (.ref e_BadLast)))
    (z_BadNumber : PySem.W.nsIn K mainGlobals "BadNumber" = some (some (.ref e_BadNumber)))
    (z_BadPlace : PySem.W.nsIn K mainGlobals "BadPlace" = some (some (.ref e_BadPlace)))
    (z_BadRow : PySem.W.nsIn K mainGlobals "BadRow" = some (some (.ref e_BadRow)))
    (z_NoRow : PySem.W.nsIn K mainGlobals "NoRow" = some (some (.ref e_NoRow)))
    (a_Can_shows : PySem.W.findIn K (.ref e_Can) "shows" = some (some (.ref f_Can_shows)))
    (i_Can_shows : PySem.W.isFn K (.ref f_Can_shows) = true)
    (l_Can_shows : K.lookup f_Can_shows = some ⟨oc_Can_shows, od_Can_shows, .func (PySem.W.fnOf "shows" "Can.shows" (defArgs s_Can_shows) (defBody s_Can_shows) (defScope s_Can_shows) .none kV_Can_shows dc_Can_shows pm_Can_shows an_Can_shows cd_Can_shows ct_Can_shows), sl_Can_shows⟩)
    (c_Can_shows : PySem.W.codeIn K cd_Can_shows "Can.shows" = true)
    (k_Can_shows : PySem.W.keepIn K (.ref f_Can_shows) = true)
    (a_Barred_shows : PySem.W.findIn K (.ref e_Barred) "shows" = some (some (.ref f_Barred_shows)))
    (i_Barred_shows : PySem.W.isFn K (.ref f_Barred_shows) = true)
    (l_Barred_shows : K.lookup f_Barred_shows = some ⟨oc_Barred_shows, od_Barred_shows, .func (PySem.W.fnOf "shows" "Barred.shows" (defArgs s_Barred_shows) (defBody s_Barred_shows) (defScope s_Barred_shows) .none kV_Barred_shows dc_Barred_shows pm_Barred_shows an_Barred_shows cd_Barred_shows ct_Barred_shows), sl_Barred_shows⟩)
    (c_Barred_shows : PySem.W.codeIn K cd_Barred_shows "Barred.shows" = true)
    (k_Barred_shows : PySem.W.keepIn K (.ref f_Barred_shows) = true)
    (a_is_right : PySem.W.nsIn K mainGlobals "is_right" = some (some (.ref f_is_right)))
    (l_is_right : K.lookup f_is_right = some ⟨oc_is_right, od_is_right, .func (PySem.W.fnOf "is_right" "is_right" (defArgs s_is_right) (defBody s_is_right) (defScope s_is_right) .none kV_is_right dc_is_right pm_is_right an_is_right cd_is_right ct_is_right), sl_is_right⟩)
    (c_is_right : PySem.W.codeIn K cd_is_right "is_right" = true)
    (k_is_right : PySem.W.keepIn K (.ref f_is_right) = true)
    (a_Good_shows : PySem.W.findIn K (.ref e_Good) "shows" = some (some (.ref f_Good_shows)))
    (i_Good_shows : PySem.W.isFn K (.ref f_Good_shows) = true)
    (l_Good_shows : K.lookup f_Good_shows = some ⟨oc_Good_shows, od_Good_shows, .func (PySem.W.fnOf "shows" "Good.shows" (defArgs s_Good_shows) (defBody s_Good_shows) (defScope s_Good_shows) .none kV_Good_shows dc_Good_shows pm_Good_shows an_Good_shows cd_Good_shows ct_Good_shows), sl_Good_shows⟩)
    (c_Good_shows : PySem.W.codeIn K cd_Good_shows "Good.shows" = true)
    (k_Good_shows : PySem.W.keepIn K (.ref f_Good_shows) = true)
    (a_Off___init__ : PySem.W.findIn K (.ref e_Off) "__init__" = some (some (.ref f_Off___init__)))
    (i_Off___init__ : PySem.W.isFn K (.ref f_Off___init__) = true)
    (l_Off___init__ : K.lookup f_Off___init__ = some ⟨oc_Off___init__, od_Off___init__, .func (PySem.W.fnOf "__init__" "Off.__init__" (defArgs s_Off___init__) (defBody s_Off___init__) (defScope s_Off___init__) .none kV_Off___init__ dc_Off___init__ pm_Off___init__ an_Off___init__ cd_Off___init__ ct_Off___init__), sl_Off___init__⟩)
    (c_Off___init__ : PySem.W.codeIn K cd_Off___init__ "Off.__init__" = true)
    (k_Off___init__ : PySem.W.keepIn K (.ref f_Off___init__) = true)
    (a_Off_shows : PySem.W.findIn K (.ref e_Off) "shows" = some (some (.ref f_Off_shows)))
    (i_Off_shows : PySem.W.isFn K (.ref f_Off_shows) = true)
    (l_Off_shows : K.lookup f_Off_shows = some ⟨oc_Off_shows, od_Off_shows, .func (PySem.W.fnOf "shows" "Off.shows" (defArgs s_Off_shows) (defBody s_Off_shows) (defScope s_Off_shows) .none kV_Off_shows dc_Off_shows pm_Off_shows an_Off_shows cd_Off_shows ct_Off_shows), sl_Off_shows⟩)
    (c_Off_shows : PySem.W.codeIn K cd_Off_shows "Off.shows" = true)
    (k_Off_shows : PySem.W.keepIn K (.ref f_Off_shows) = true)
    (a_is_number : PySem.W.nsIn K mainGlobals "is_number" = some (some (.ref f_is_number)))
    (l_is_number : K.lookup f_is_number = some ⟨oc_is_number, od_is_number, .func (PySem.W.fnOf "is_number" "is_number" (defArgs s_is_number) (defBody s_is_number) (defScope s_is_number) .none kV_is_number dc_is_number pm_is_number an_is_number cd_is_number ct_is_number), sl_is_number⟩)
    (c_is_number : PySem.W.codeIn K cd_is_number "is_number" = true)
    (k_is_number : PySem.W.keepIn K (.ref f_is_number) = true)
    (a_asked_last : PySem.W.nsIn K mainGlobals "asked_last" = some (some (.ref f_asked_last)))
    (l_asked_last : K.lookup f_asked_last = some ⟨oc_asked_last, od_asked_last, .func (PySem.W.fnOf "asked_last" "asked_last" (defArgs s_asked_last) (defBody s_asked_last) (defScope s_asked_last) .none kV_asked_last dc_asked_last pm_asked_last an_asked_last cd_asked_last ct_asked_last), sl_asked_last⟩)
    (c_asked_last : PySem.W.codeIn K cd_asked_last "asked_last" = true)
    (k_asked_last : PySem.W.keepIn K (.ref f_asked_last) = true)
    (a_can : PySem.W.nsIn K mainGlobals "can" = some (some (.ref f_can)))
    (l_can : K.lookup f_can = some ⟨oc_can, od_can, .func (PySem.W.fnOf "can" "can" (defArgs s_can) (defBody s_can) (defScope s_can) .none kV_can dc_can pm_can an_can cd_can ct_can), sl_can⟩)
    (c_can : PySem.W.codeIn K cd_can "can" = true)
    (k_can : PySem.W.keepIn K (.ref f_can) = true)
    (a_asked_row : PySem.W.nsIn K mainGlobals "asked_row" = some (some (.ref f_asked_row)))
    (l_asked_row : K.lookup f_asked_row = some ⟨oc_asked_row, od_asked_row, .func (PySem.W.fnOf "asked_row" "asked_row" (defArgs s_asked_row) (defBody s_asked_row) (defScope s_asked_row) .none kV_asked_row dc_asked_row pm_asked_row an_asked_row cd_asked_row ct_asked_row), sl_asked_row⟩)
    (c_asked_row : PySem.W.codeIn K cd_asked_row "asked_row" = true)
    (k_asked_row : PySem.W.keepIn K (.ref f_asked_row) = true)
    (a_first_by_fours : PySem.W.nsIn K mainGlobals "first_by_fours" = some (some (.ref f_first_by_fours)))
    (l_first_by_fours : K.lookup f_first_by_fours = some ⟨oc_first_by_fours, od_first_by_fours, .func (PySem.W.fnOf "first_by_fours" "first_by_fours" (defArgs s_first_by_fours) (defBody s_first_by_fours) (defScope s_first_by_fours) .none kV_first_by_fours dc_first_by_fours pm_first_by_fours an_first_by_fours cd_first_by_fours ct_first_by_fours), sl_first_by_fours⟩)
    (c_first_by_fours : PySem.W.codeIn K cd_first_by_fours "first_by_fours" = true)
    (k_first_by_fours : PySem.W.keepIn K (.ref f_first_by_fours) = true)
    (a_first_by_ones : PySem.W.nsIn K mainGlobals "first_by_ones" = some (some (.ref f_first_by_ones)))
    (l_first_by_ones : K.lookup f_first_by_ones = some ⟨oc_first_by_ones, od_first_by_ones, .func (PySem.W.fnOf "first_by_ones" "first_by_ones" (defArgs s_first_by_ones) (defBody s_first_by_ones) (defScope s_first_by_ones) .none kV_first_by_ones dc_first_by_ones pm_first_by_ones an_first_by_ones cd_first_by_ones ct_first_by_ones), sl_first_by_ones⟩)
    (c_first_by_ones : PySem.W.codeIn K cd_first_by_ones "first_by_ones" = true)
    (k_first_by_ones : PySem.W.keepIn K (.ref f_first_by_ones) = true)
    (a_first_of : PySem.W.nsIn K mainGlobals "first_of" = some (some (.ref f_first_of)))
    (l_first_of : K.lookup f_first_of = some ⟨oc_first_of, od_first_of, .func (PySem.W.fnOf "first_of" "first_of" (defArgs s_first_of) (defBody s_first_of) (defScope s_first_of) .none kV_first_of dc_first_of pm_first_of an_first_of cd_first_of ct_first_of), sl_first_of⟩)
    (c_first_of : PySem.W.codeIn K cd_first_of "first_of" = true)
    (k_first_of : PySem.W.keepIn K (.ref f_first_of) = true)
    (a_both : PySem.W.nsIn K mainGlobals "both" = some (some (.ref f_both)))
    (l_both : K.lookup f_both = some ⟨oc_both, od_both, .func (PySem.W.fnOf "both" "both" (defArgs s_both) (defBody s_both) (defScope s_both) .none kV_both dc_both pm_both an_both cd_both ct_both), sl_both⟩)
    (c_both : PySem.W.codeIn K cd_both "both" = true)
    (k_both : PySem.W.keepIn K (.ref f_both) = true)
    (a_places_of : PySem.W.nsIn K mainGlobals "places_of" = some (some (.ref f_places_of)))
    (l_places_of : K.lookup f_places_of = some ⟨oc_places_of, od_places_of, .func (PySem.W.fnOf "places_of" "places_of" (defArgs s_places_of) (defBody s_places_of) (defScope s_places_of) .none kV_places_of dc_places_of pm_places_of an_places_of cd_places_of ct_places_of), sl_places_of⟩)
    (c_places_of : PySem.W.codeIn K cd_places_of "places_of" = true)
    (k_places_of : PySem.W.keepIn K (.ref f_places_of) = true)
    (a_at_place : PySem.W.nsIn K mainGlobals "at_place" = some (some (.ref f_at_place)))
    (l_at_place : K.lookup f_at_place = some ⟨oc_at_place, od_at_place, .func (PySem.W.fnOf "at_place" "at_place" (defArgs s_at_place) (defBody s_at_place) (defScope s_at_place) .none kV_at_place dc_at_place pm_at_place an_at_place cd_at_place ct_at_place), sl_at_place⟩)
    (c_at_place : PySem.W.codeIn K cd_at_place "at_place" = true)
    (k_at_place : PySem.W.keepIn K (.ref f_at_place) = true)
    (a_number_at : PySem.W.nsIn K mainGlobals "number_at" = some (some (.ref f_number_at)))
    (l_number_at : K.lookup f_number_at = some ⟨oc_number_at, od_number_at, .func (PySem.W.fnOf "number_at" "number_at" (defArgs s_number_at) (defBody s_number_at) (defScope s_number_at) .none kV_number_at dc_number_at pm_number_at an_number_at cd_number_at ct_number_at), sl_number_at⟩)
    (c_number_at : PySem.W.codeIn K cd_number_at "number_at" = true)
    (k_number_at : PySem.W.keepIn K (.ref f_number_at) = true)
    (a_asked_list : PySem.W.nsIn K mainGlobals "asked_list" = some (some (.ref f_asked_list)))
    (l_asked_list : K.lookup f_asked_list = some ⟨oc_asked_list, od_asked_list, .func (PySem.W.fnOf "asked_list" "asked_list" (defArgs s_asked_list) (defBody s_asked_list) (defScope s_asked_list) .none kV_asked_list dc_asked_list pm_asked_list an_asked_list cd_asked_list ct_asked_list), sl_asked_list⟩)
    (c_asked_list : PySem.W.codeIn K cd_asked_list "asked_list" = true)
    (k_asked_list : PySem.W.keepIn K (.ref f_asked_list) = true)
    (a_told : PySem.W.nsIn K mainGlobals "told" = some (some (.ref f_told)))
    (l_told : K.lookup f_told = some ⟨oc_told, od_told, .func (PySem.W.fnOf "told" "told" (defArgs s_told) (defBody s_told) (defScope s_told) .none kV_told dc_told pm_told an_told cd_told ct_told), sl_told⟩)
    (c_told : PySem.W.codeIn K cd_told "told" = true)
    (k_told : PySem.W.keepIn K (.ref f_told) = true)
    (a_three_by : PySem.W.nsIn K mainGlobals "three_by" = some (some (.ref f_three_by)))
    (l_three_by : K.lookup f_three_by = some ⟨oc_three_by, od_three_by, .func (PySem.W.fnOf "three_by" "three_by" (defArgs s_three_by) (defBody s_three_by) (defScope s_three_by) .none kV_three_by dc_three_by pm_three_by an_three_by cd_three_by ct_three_by), sl_three_by⟩)
    (c_three_by : PySem.W.codeIn K cd_three_by "three_by" = true)
    (k_three_by : PySem.W.keepIn K (.ref f_three_by) = true)
    (a_three_of : PySem.W.nsIn K mainGlobals "three_of" = some (some (.ref f_three_of)))
    (l_three_of : K.lookup f_three_of = some ⟨oc_three_of, od_three_of, .func (PySem.W.fnOf "three_of" "three_of" (defArgs s_three_of) (defBody s_three_of) (defScope s_three_of) .none kV_three_of dc_three_of pm_three_of an_three_of cd_three_of ct_three_of), sl_three_of⟩)
    (c_three_of : PySem.W.codeIn K cd_three_of "three_of" = true)
    (k_three_of : PySem.W.keepIn K (.ref f_three_of) = true)
    (a__law_refused : PySem.W.nsIn K mainGlobals "_law_refused" = some (some (.ref f__law_refused)))
    (l__law_refused : K.lookup f__law_refused = some ⟨oc__law_refused, od__law_refused, .func (PySem.W.fnOf "_law_refused" "_law_refused" (defArgs s__law_refused) (defBody s__law_refused) (defScope s__law_refused) .none kV__law_refused dc__law_refused pm__law_refused an__law_refused cd__law_refused ct__law_refused), sl__law_refused⟩)
    (c__law_refused : PySem.W.codeIn K cd__law_refused "_law_refused" = true)
    (k__law_refused : PySem.W.keepIn K (.ref f__law_refused) = true)
    (a__law_great : PySem.W.nsIn K mainGlobals "_law_great" = some (some (.ref f__law_great)))
    (l__law_great : K.lookup f__law_great = some ⟨oc__law_great, od__law_great, .func (PySem.W.fnOf "_law_great" "_law_great" (defArgs s__law_great) (defBody s__law_great) (defScope s__law_great) .none kV__law_great dc__law_great pm__law_great an__law_great cd__law_great ct__law_great), sl__law_great⟩)
    (c__law_great : PySem.W.codeIn K cd__law_great "_law_great" = true)
    (k__law_great : PySem.W.keepIn K (.ref f__law_great) = true)
    (a_law : PySem.W.nsIn K mainGlobals "law" = some (some (.ref f_law)))
    (l_law : K.lookup f_law = some ⟨oc_law, od_law, .func (PySem.W.fnOf "law" "law" (defArgs s_law) (defBody s_law) (defScope s_law) .none kV_law dc_law pm_law an_law (.ref q_law) ct_law), sl_law⟩)
    (c_law : PySem.W.codeIn K (.ref q_law) "law" = true)
    (k_law : PySem.W.keepIn K (.ref f_law) = true)
    (qk_law : K.lookup q_law = some ⟨ce_law, cdd_law, .fields cv_law, cs_law⟩)
    (qp_law : cv_law[11]? = some (.ref p_law))
    (qh_law : PySem.W.codeHdIn K q_law p_law = true)
    (qn_law : K.lookup p_law = none)
    (p1_Can : PySem.W.plainGet K e_Can Str.empty = true)
    (p2_Can : PySem.W.hasDictIn K e_Can = true)
    (p3_Can : PySem.W.plainOver K e_Can = true)
    (p4_Can : PySem.W.findIn K (.ref e_Can) "__setattr__" = some (some (.builtin "object.__setattr__")))
    (p5_Can : PySem.W.findIn K (.ref e_Can) "__class__" = some (some (.builtin "object.__class__")))
    (p6_Can : PySem.W.specialIn K (.builtin "object.__class__") "__get__" = some (some (.builtin "getset_descriptor.__get__")))
    (p7_Can : PySem.W.takesIn K (.builtin "object.__class__") = some true)
    (p8_Can : PySem.W.mroIn K e_Can (.type "object") = some true)
    (p9_Can : PySem.W.makesIn K e_Can = true)
    (pk_Can : PySem.W.keepIn K (.ref e_Can) = true)
    (ni_Can : PySem.W.findIn K (.ref e_Can) "__init__" = some (some (.builtin "object.__init__")))
    (p1_Barred : PySem.W.plainGet K e_Barred Str.empty = true)
    (p2_Barred : PySem.W.hasDictIn K e_Barred = true)
    (p3_Barred : PySem.W.plainOver K e_Barred = true)
    (p4_Barred : PySem.W.findIn K (.ref e_Barred) "__setattr__" = some (some (.builtin "object.__setattr__")))
    (p5_Barred : PySem.W.findIn K (.ref e_Barred) "__class__" = some (some (.builtin "object.__class__")))
    (p6_Barred : PySem.W.specialIn K (.builtin "object.__class__") "__get__" = some (some (.builtin "getset_descriptor.__get__")))
    (p7_Barred : PySem.W.takesIn K (.builtin "object.__class__") = some true)
    (p8_Barred : PySem.W.mroIn K e_Barred (.type "object") = some true)
    (p9_Barred : PySem.W.makesIn K e_Barred = true)
    (pk_Barred : PySem.W.keepIn K (.ref e_Barred) = true)
    (ni_Barred : PySem.W.findIn K (.ref e_Barred) "__init__" = some (some (.builtin "object.__init__")))
    (p1_Good : PySem.W.plainGet K e_Good Str.empty = true)
    (p2_Good : PySem.W.hasDictIn K e_Good = true)
    (p3_Good : PySem.W.plainOver K e_Good = true)
    (p4_Good : PySem.W.findIn K (.ref e_Good) "__setattr__" = some (some (.builtin "object.__setattr__")))
    (p5_Good : PySem.W.findIn K (.ref e_Good) "__class__" = some (some (.builtin "object.__class__")))
    (p6_Good : PySem.W.specialIn K (.builtin "object.__class__") "__get__" = some (some (.builtin "getset_descriptor.__get__")))
    (p7_Good : PySem.W.takesIn K (.builtin "object.__class__") = some true)
    (p8_Good : PySem.W.mroIn K e_Good (.type "object") = some true)
    (p9_Good : PySem.W.makesIn K e_Good = true)
    (pk_Good : PySem.W.keepIn K (.ref e_Good) = true)
    (ni_Good : PySem.W.findIn K (.ref e_Good) "__init__" = some (some (.builtin "object.__init__")))
    (p1_Off : PySem.W.plainGet K e_Off Str.empty = true)
    (p2_Off : PySem.W.hasDictIn K e_Off = true)
    (p3_Off : PySem.W.plainOver K e_Off = true)
    (p4_Off : PySem.W.findIn K (.ref e_Off) "__setattr__" = some (some (.builtin "object.__setattr__")))
    (p5_Off : PySem.W.findIn K (.ref e_Off) "__class__" = some (some (.builtin "object.__class__")))
    (p6_Off : PySem.W.specialIn K (.builtin "object.__class__") "__get__" = some (some (.builtin "getset_descriptor.__get__")))
    (p7_Off : PySem.W.takesIn K (.builtin "object.__class__") = some true)
    (p8_Off : PySem.W.mroIn K e_Off (.type "object") = some true)
    (p9_Off : PySem.W.makesIn K e_Off = true)
    (pk_Off : PySem.W.keepIn K (.ref e_Off) = true)
    (na_Off : PySem.W.findIn K (.ref e_Off) "number" = some none)
    (x_PairError : PySem.W.excIn K e_PairError [.type "ValueError", .type "Exception", .type "BaseException", .type "object"] "ValueError.__new__" = true)
    (xk_PairError : PySem.W.keepIn K (.ref e_PairError) = true)
    (xs_PairError : PySem.W.subIn K (.ref e_PairError) (.type "BaseException") = some true)
    (xt_PairError : PySem.W.typeIn K (.ref e_PairError) = some (.type "type"))
    (xd_PairError : PySem.W.hasDictIn K e_PairError = true)
    (x_BadLast : PySem.W.excIn K e_BadLast [.type "ValueError", .type "Exception", .type "BaseException", .type "object"] "ValueError.__new__" = true)
    (xk_BadLast : PySem.W.keepIn K (.ref e_BadLast) = true)
    (xs_BadLast : PySem.W.subIn K (.ref e_BadLast) (.type "BaseException") = some true)
    (xt_BadLast : PySem.W.typeIn K (.ref e_BadLast) = some (.type "type"))
    (xd_BadLast : PySem.W.hasDictIn K e_BadLast = true)
    (yg_BadLast : PySem.W.findIn K (.ref e_BadLast) "__getattribute__" = some (some (.builtin "BaseException.__getattribute__")))
    (yh_BadLast : PySem.W.findIn K (.ref e_BadLast) "__getattr__" = some none)
    (ya_BadLast : PySem.W.findIn K (.ref e_BadLast) "__class__" = some (some (.builtin "object.__class__")))
    (yn_BadLast : PySem.W.specialIn K (.builtin "object.__class__") "__get__" = some (some (.builtin "getset_descriptor.__get__")))
    (yt_BadLast : PySem.W.takesIn K (.builtin "object.__class__") = some true)
    (ym_BadLast : PySem.W.mroIn K e_BadLast (.type "object") = some true)
    (yp_BadLast : PySem.W.subIn K (.ref e_BadLast) (.ref e_PairError) = some true)
    (kv_BadLast : PySem.W.kitOne K (.ref e_BadLast) (.type "ValueError") = some true)
    (x_BadNumber : PySem.W.excIn K e_BadNumber [.type "ValueError", .type "Exception", .type "BaseException", .type "object"] "ValueError.__new__" = true)
    (xk_BadNumber : PySem.W.keepIn K (.ref e_BadNumber) = true)
    (xs_BadNumber : PySem.W.subIn K (.ref e_BadNumber) (.type "BaseException") = some true)
    (xt_BadNumber : PySem.W.typeIn K (.ref e_BadNumber) = some (.type "type"))
    (xd_BadNumber : PySem.W.hasDictIn K e_BadNumber = true)
    (yg_BadNumber : PySem.W.findIn K (.ref e_BadNumber) "__getattribute__" = some (some (.builtin "BaseException.__getattribute__")))
    (yh_BadNumber : PySem.W.findIn K (.ref e_BadNumber) "__getattr__" = some none)
    (ya_BadNumber : PySem.W.findIn K (.ref e_BadNumber) "__class__" = some (some (.builtin "object.__class__")))
    (yn_BadNumber : PySem.W.specialIn K (.builtin "object.__class__") "__get__" = some (some (.builtin "getset_descriptor.__get__")))
    (yt_BadNumber : PySem.W.takesIn K (.builtin "object.__class__") = some true)
    (ym_BadNumber : PySem.W.mroIn K e_BadNumber (.type "object") = some true)
    (yp_BadNumber : PySem.W.subIn K (.ref e_BadNumber) (.ref e_PairError) = some true)
    (kv_BadNumber : PySem.W.kitOne K (.ref e_BadNumber) (.type "ValueError") = some true)
    (x_BadPlace : PySem.W.excIn K e_BadPlace [.type "ValueError", .type "Exception", .type "BaseException", .type "object"] "ValueError.__new__" = true)
    (xk_BadPlace : PySem.W.keepIn K (.ref e_BadPlace) = true)
    (xs_BadPlace : PySem.W.subIn K (.ref e_BadPlace) (.type "BaseException") = some true)
    (xt_BadPlace : PySem.W.typeIn K (.ref e_BadPlace) = some (.type "type"))
    (xd_BadPlace : PySem.W.hasDictIn K e_BadPlace = true)
    (yg_BadPlace : PySem.W.findIn K (.ref e_BadPlace) "__getattribute__" = some (some (.builtin "BaseException.__getattribute__")))
    (yh_BadPlace : PySem.W.findIn K (.ref e_BadPlace) "__getattr__" = some none)
    (ya_BadPlace : PySem.W.findIn K (.ref e_BadPlace) "__class__" = some (some (.builtin "object.__class__")))
    (yn_BadPlace : PySem.W.specialIn K (.builtin "object.__class__") "__get__" = some (some (.builtin "getset_descriptor.__get__")))
    (yt_BadPlace : PySem.W.takesIn K (.builtin "object.__class__") = some true)
    (ym_BadPlace : PySem.W.mroIn K e_BadPlace (.type "object") = some true)
    (yp_BadPlace : PySem.W.subIn K (.ref e_BadPlace) (.ref e_PairError) = some true)
    (kv_BadPlace : PySem.W.kitOne K (.ref e_BadPlace) (.type "ValueError") = some true)
    (x_BadRow : PySem.W.excIn K e_BadRow [.type "ValueError", .type "Exception", .type "BaseException", .type "object"] "ValueError.__new__" = true)
    (xk_BadRow : PySem.W.keepIn K (.ref e_BadRow) = true)
    (xs_BadRow : PySem.W.subIn K (.ref e_BadRow) (.type "BaseException") = some true)
    (xt_BadRow : PySem.W.typeIn K (.ref e_BadRow) = some (.type "type"))
    (xd_BadRow : PySem.W.hasDictIn K e_BadRow = true)
    (yg_BadRow : PySem.W.findIn K (.ref e_BadRow) "__getattribute__" = some (some (.builtin "BaseException.__getattribute__")))
    (yh_BadRow : PySem.W.findIn K (.ref e_BadRow) "__getattr__" = some none)
    (ya_BadRow : PySem.W.findIn K (.ref e_BadRow) "__class__" = some (some (.builtin "object.__class__")))
    (yn_BadRow : PySem.W.specialIn K (.builtin "object.__class__") "__get__" = some (some (.builtin "getset_descriptor.__get__")))
    (yt_BadRow : PySem.W.takesIn K (.builtin "object.__class__") = some true)
    (ym_BadRow : PySem.W.mroIn K e_BadRow (.type "object") = some true)
    (yp_BadRow : PySem.W.subIn K (.ref e_BadRow) (.ref e_PairError) = some true)
    (kv_BadRow : PySem.W.kitOne K (.ref e_BadRow) (.type "ValueError") = some true)
    (x_NoRow : PySem.W.excIn K e_NoRow [.type "ValueError", .type "Exception", .type "BaseException", .type "object"] "ValueError.__new__" = true)
    (xk_NoRow : PySem.W.keepIn K (.ref e_NoRow) = true)
    (xs_NoRow : PySem.W.subIn K (.ref e_NoRow) (.type "BaseException") = some true)
    (xt_NoRow : PySem.W.typeIn K (.ref e_NoRow) = some (.type "type"))
    (xd_NoRow : PySem.W.hasDictIn K e_NoRow = true)
    (yg_NoRow : PySem.W.findIn K (.ref e_NoRow) "__getattribute__" = some (some (.builtin "BaseException.__getattribute__")))
    (yh_NoRow : PySem.W.findIn K (.ref e_NoRow) "__getattr__" = some none)
    (ya_NoRow : PySem.W.findIn K (.ref e_NoRow) "__class__" = some (some (.builtin "object.__class__")))
    (yn_NoRow : PySem.W.specialIn K (.builtin "object.__class__") "__get__" = some (some (.builtin "getset_descriptor.__get__")))
    (yt_NoRow : PySem.W.takesIn K (.builtin "object.__class__") = some true)
    (ym_NoRow : PySem.W.mroIn K e_NoRow (.type "object") = some true)
    (yp_NoRow : PySem.W.subIn K (.ref e_NoRow) (.ref e_PairError) = some true)
    (kv_NoRow : PySem.W.kitOne K (.ref e_NoRow) (.type "ValueError") = some true)
    (z_FIRSTS : PySem.W.nsIn K mainGlobals "FIRSTS" = some (some (.ref e_FIRSTS)))
    (l_FIRSTS : K.lookup e_FIRSTS = some ⟨.type "dict", none, .dict #[⟨1, .int 1 t_F1, .ref e_F1⟩, ⟨4, .int 4 t_F4, .ref e_F4⟩, ⟨5, .int 5 t_F5, .ref e_F5⟩] n_F, #[]⟩)
    (l_F1 : K.lookup e_F1 = some ⟨.type "tuple", dd_F1, .seq #[.int 1 t_Fa0] n_F1, ss_F1⟩)
    (l_F4 : K.lookup e_F4 = some ⟨.type "tuple", dd_F4, .seq #[.int 1 t_Fa1, .int 5 t_Fa2, .int 3 t_Fa3, .int 4 t_Fa4] n_F4, ss_F4⟩)
    (l_F5 : K.lookup e_F5 = some ⟨.type "tuple", dd_F5, .seq #[.int 8 t_Fa5, .int 3 t_Fa6, .int 1 t_Fa7, .int 6 t_Fa8, .int 2 t_Fa9] n_F5, ss_F5⟩)
    (z_MOST : PySem.W.nsIn K mainGlobals "MOST" = some (some (.int 400 t_MOST)))
    (m_ValueError : PySem.W.nsIn K mainGlobals "ValueError" = some none)
    (m_abs : PySem.W.nsIn K mainGlobals "abs" = some none)
    (m_all : PySem.W.nsIn K mainGlobals "all" = some none)
    (m_bool : PySem.W.nsIn K mainGlobals "bool" = some none)
    (m_int : PySem.W.nsIn K mainGlobals "int" = some none)
    (m_isinstance : PySem.W.nsIn K mainGlobals "isinstance" = some none)
    (m_len : PySem.W.nsIn K mainGlobals "len" = some none)
    (m_list : PySem.W.nsIn K mainGlobals "list" = some none)
    (m_range : PySem.W.nsIn K mainGlobals "range" = some none)
    (m_sum : PySem.W.nsIn K mainGlobals "sum" = some none)
    (ke_BadLast_BadLast : PySem.W.kitOne K (.ref e_BadLast) (.ref e_BadLast) = some true)
    (ke_BadLast_BadNumber : PySem.W.kitOne K (.ref e_BadLast) (.ref e_BadNumber) = some false)
    (ke_BadLast_BadPlace : PySem.W.kitOne K (.ref e_BadLast) (.ref e_BadPlace) = some false)
    (ke_BadLast_BadRow : PySem.W.kitOne K (.ref e_BadLast) (.ref e_BadRow) = some false)
    (ke_BadLast_NoRow : PySem.W.kitOne K (.ref e_BadLast) (.ref e_NoRow) = some false)
    (ke_BadNumber_BadLast : PySem.W.kitOne K (.ref e_BadNumber) (.ref e_BadLast) = some false)
    (ke_BadNumber_BadNumber : PySem.W.kitOne K (.ref e_BadNumber) (.ref e_BadNumber) = some true)
    (ke_BadNumber_BadPlace : PySem.W.kitOne K (.ref e_BadNumber) (.ref e_BadPlace) = some false)
    (ke_BadNumber_BadRow : PySem.W.kitOne K (.ref e_BadNumber) (.ref e_BadRow) = some false)
    (ke_BadNumber_NoRow : PySem.W.kitOne K (.ref e_BadNumber) (.ref e_NoRow) = some false)
    (ke_BadPlace_BadLast : PySem.W.kitOne K (.ref e_BadPlace) (.ref e_BadLast) = some false)
    (ke_BadPlace_BadNumber : PySem.W.kitOne K (.ref e_BadPlace) (.ref e_BadNumber) = some false)
    (ke_BadPlace_BadPlace : PySem.W.kitOne K (.ref e_BadPlace) (.ref e_BadPlace) = some true)
    (ke_BadPlace_BadRow : PySem.W.kitOne K (.ref e_BadPlace) (.ref e_BadRow) = some false)
    (ke_BadPlace_NoRow : PySem.W.kitOne K (.ref e_BadPlace) (.ref e_NoRow) = some false)
    (ke_BadRow_BadLast : PySem.W.kitOne K (.ref e_BadRow) (.ref e_BadLast) = some false)
    (ke_BadRow_BadNumber : PySem.W.kitOne K (.ref e_BadRow) (.ref e_BadNumber) = some false)
    (ke_BadRow_BadPlace : PySem.W.kitOne K (.ref e_BadRow) (.ref e_BadPlace) = some false)
    (ke_BadRow_BadRow : PySem.W.kitOne K (.ref e_BadRow) (.ref e_BadRow) = some true)
    (ke_BadRow_NoRow : PySem.W.kitOne K (.ref e_BadRow) (.ref e_NoRow) = some false)
    (ke_NoRow_BadLast : PySem.W.kitOne K (.ref e_NoRow) (.ref e_BadLast) = some false)
    (ke_NoRow_BadNumber : PySem.W.kitOne K (.ref e_NoRow) (.ref e_BadNumber) = some false)
    (ke_NoRow_BadPlace : PySem.W.kitOne K (.ref e_NoRow) (.ref e_BadPlace) = some false)
    (ke_NoRow_BadRow : PySem.W.kitOne K (.ref e_NoRow) (.ref e_BadRow) = some false)
    (ke_NoRow_NoRow : PySem.W.kitOne K (.ref e_NoRow) (.ref e_NoRow) = some true)
    (kit_Can_Answer : PySem.W.kitOne K (.ref e_Can) (.ref e_Answer) = some true)
    (kit_Can_Can : PySem.W.kitOne K (.ref e_Can) (.ref e_Can) = some true)
    (kit_Can_Barred : PySem.W.kitOne K (.ref e_Can) (.ref e_Barred) = some false)
    (kit_Can_Good : PySem.W.kitOne K (.ref e_Can) (.ref e_Good) = some false)
    (kit_Can_Off : PySem.W.kitOne K (.ref e_Can) (.ref e_Off) = some false)
    (kit_Barred_Answer : PySem.W.kitOne K (.ref e_Barred) (.ref e_Answer) = some true)
    (kit_Barred_Can : PySem.W.kitOne K (.ref e_Barred) (.ref e_Can) = some false)
    (kit_Barred_Barred : PySem.W.kitOne K (.ref e_Barred) (.ref e_Barred) = some true)
    (kit_Barred_Good : PySem.W.kitOne K (.ref e_Barred) (.ref e_Good) = some false)
    (kit_Barred_Off : PySem.W.kitOne K (.ref e_Barred) (.ref e_Off) = some false)
    (kit_Good_Answer : PySem.W.kitOne K (.ref e_Good) (.ref e_Answer) = some true)
    (kit_Good_Can : PySem.W.kitOne K (.ref e_Good) (.ref e_Can) = some false)
    (kit_Good_Barred : PySem.W.kitOne K (.ref e_Good) (.ref e_Barred) = some false)
    (kit_Good_Good : PySem.W.kitOne K (.ref e_Good) (.ref e_Good) = some true)
    (kit_Good_Off : PySem.W.kitOne K (.ref e_Good) (.ref e_Off) = some false)
    (kit_Off_Answer : PySem.W.kitOne K (.ref e_Off) (.ref e_Answer) = some true)
    (kit_Off_Can : PySem.W.kitOne K (.ref e_Off) (.ref e_Can) = some false)
    (kit_Off_Barred : PySem.W.kitOne K (.ref e_Off) (.ref e_Barred) = some false)
    (kit_Off_Good : PySem.W.kitOne K (.ref e_Off) (.ref e_Good) = some false)
    (kit_Off_Off : PySem.W.kitOne K (.ref e_Off) (.ref e_Off) = some true) : Tx K mg := {
    a_Can_shows := f_Can_shows, d_Can_shows := _, F_Can_shows := fun_mk (st := s_Can_shows) l_Can_shows c_Can_shows k_Can_shows, b_Can_shows := (fun_mk (st := s_Can_shows) l_Can_shows c_Can_shows k_Can_shows).binds (ps := ["self", "last"]) fun _ _ _ _ _ _ us hl => match us, hl with | [_, _], _ => rfl,
    a_Barred_shows := f_Barred_shows, d_Barred_shows := _, F_Barred_shows := fun_mk (st := s_Barred_shows) l_Barred_shows c_Barred_shows k_Barred_shows, b_Barred_shows := (fun_mk (st := s_Barred_shows) l_Barred_shows c_Barred_shows k_Barred_shows).binds (ps := ["self", "last"]) fun _ _ _ _ _ _ us hl => match us, hl with | [_, _], _ => rfl,
    a_is_right := f_is_right, d_is_right := _, F_is_right := fun_mk (st := s_is_right) l_is_right c_is_right k_is_right, b_is_right := (fun_mk (st := s_is_right) l_is_right c_is_right k_is_right).binds (ps := ["row", "number"]) fun _ _ _ _ _ _ us hl => match us, hl with | [_, _], _ => rfl,
    g_is_right := PySem.W.mg_of X G a_is_right,
    a_Good_shows := f_Good_shows, d_Good_shows := _, F_Good_shows := fun_mk (st := s_Good_shows) l_Good_shows c_Good_shows k_Good_shows, b_Good_shows := (fun_mk (st := s_Good_shows) l_Good_shows c_Good_shows k_Good_shows).binds (ps := ["self", "row"]) fun _ _ _ _ _ _ us hl => match us, hl with | [_, _], _ => rfl,
    a_Off___init__ := f_Off___init__, d_Off___init__ := _, F_Off___init__ := fun_mk (st := s_Off___init__) l_Off___init__ c_Off___init__ k_Off___init__, b_Off___init__ := (fun_mk (st := s_Off___init__) l_Off___init__ c_Off___init__ k_Off___init__).binds (ps := ["self", "number"]) fun _ _ _ _ _ _ us hl => match us, hl with | [_, _], _ => rfl,
    a_Off_shows := f_Off_shows, d_Off_shows := _, F_Off_shows := fun_mk (st := s_Off_shows) l_Off_shows c_Off_shows k_Off_shows, b_Off_shows := (fun_mk (st := s_Off_shows) l_Off_shows c_Off_shows k_Off_shows).binds (ps := ["self", "row"]) fun _ _ _ _ _ _ us hl => match us, hl with | [_, _], _ => rfl,
    a_is_number := f_is_number, d_is_number := _, F_is_number := fun_mk (st := s_is_number) l_is_number c_is_number k_is_number, b_is_number := (fun_mk (st := s_is_number) l_is_number c_is_number k_is_number).binds (ps := ["thing"]) fun _ _ _ _ _ _ us hl => match us, hl with | [_], _ => rfl,
    g_is_number := PySem.W.mg_of X G a_is_number,
    a_asked_last := f_asked_last, d_asked_last := _, F_asked_last := fun_mk (st := s_asked_last) l_asked_last c_asked_last k_asked_last, b_asked_last := (fun_mk (st := s_asked_last) l_asked_last c_asked_last k_asked_last).binds (ps := ["last"]) fun _ _ _ _ _ _ us hl => match us, hl with | [_], _ => rfl,
    g_asked_last := PySem.W.mg_of X G a_asked_last,
    a_can := f_can, d_can := _, F_can := fun_mk (st := s_can) l_can c_can k_can, b_can := (fun_mk (st := s_can) l_can c_can k_can).binds (ps := ["last"]) fun _ _ _ _ _ _ us hl => match us, hl with | [_], _ => rfl,
    g_can := PySem.W.mg_of X G a_can,
    a_asked_row := f_asked_row, d_asked_row := _, F_asked_row := fun_mk (st := s_asked_row) l_asked_row c_asked_row k_asked_row, b_asked_row := (fun_mk (st := s_asked_row) l_asked_row c_asked_row k_asked_row).binds (ps := ["last"]) fun _ _ _ _ _ _ us hl => match us, hl with | [_], _ => rfl,
    g_asked_row := PySem.W.mg_of X G a_asked_row,
    a_first_by_fours := f_first_by_fours, d_first_by_fours := _, F_first_by_fours := fun_mk (st := s_first_by_fours) l_first_by_fours c_first_by_fours k_first_by_fours, b_first_by_fours := (fun_mk (st := s_first_by_fours) l_first_by_fours c_first_by_fours k_first_by_fours).binds (ps := ["part", "number"]) fun _ _ _ _ _ _ us hl => match us, hl with | [_, _], _ => rfl,
    g_first_by_fours := PySem.W.mg_of X G a_first_by_fours,
    a_first_by_ones := f_first_by_ones, d_first_by_ones := _, F_first_by_ones := fun_mk (st := s_first_by_ones) l_first_by_ones c_first_by_ones k_first_by_ones, b_first_by_ones := (fun_mk (st := s_first_by_ones) l_first_by_ones c_first_by_ones k_first_by_ones).binds (ps := ["part", "number"]) fun _ _ _ _ _ _ us hl => match us, hl with | [_, _], _ => rfl,
    g_first_by_ones := PySem.W.mg_of X G a_first_by_ones,
    a_first_of := f_first_of, d_first_of := _, F_first_of := fun_mk (st := s_first_of) l_first_of c_first_of k_first_of, b_first_of := (fun_mk (st := s_first_of) l_first_of c_first_of k_first_of).binds (ps := ["last", "number"]) fun _ _ _ _ _ _ us hl => match us, hl with | [_, _], _ => rfl,
    g_first_of := PySem.W.mg_of X G a_first_of,
    a_both := f_both, d_both := _, F_both := fun_mk (st := s_both) l_both c_both k_both, b_both := (fun_mk (st := s_both) l_both c_both k_both).binds (ps := ["last", "number"]) fun _ _ _ _ _ _ us hl => match us, hl with | [_, _], _ => rfl,
    g_both := PySem.W.mg_of X G a_both,
    a_places_of := f_places_of, d_places_of := _, F_places_of := fun_mk (st := s_places_of) l_places_of c_places_of k_places_of, b_places_of := (fun_mk (st := s_places_of) l_places_of c_places_of k_places_of).binds (ps := ["last", "number"]) fun _ _ _ _ _ _ us hl => match us, hl with | [_, _], _ => rfl,
    g_places_of := PySem.W.mg_of X G a_places_of,
    a_at_place := f_at_place, d_at_place := _, F_at_place := fun_mk (st := s_at_place) l_at_place c_at_place k_at_place, b_at_place := (fun_mk (st := s_at_place) l_at_place c_at_place k_at_place).binds (ps := ["last", "place"]) fun _ _ _ _ _ _ us hl => match us, hl with | [_, _], _ => rfl,
    g_at_place := PySem.W.mg_of X G a_at_place,
    a_number_at := f_number_at, d_number_at := _, F_number_at := fun_mk (st := s_number_at) l_number_at c_number_at k_number_at, b_number_at := (fun_mk (st := s_number_at) l_number_at c_number_at k_number_at).binds (ps := ["last", "place"]) fun _ _ _ _ _ _ us hl => match us, hl with | [_, _], _ => rfl,
    g_number_at := PySem.W.mg_of X G a_number_at,
    a_asked_list := f_asked_list, d_asked_list := _, F_asked_list := fun_mk (st := s_asked_list) l_asked_list c_asked_list k_asked_list, b_asked_list := (fun_mk (st := s_asked_list) l_asked_list c_asked_list k_asked_list).binds (ps := ["row"]) fun _ _ _ _ _ _ us hl => match us, hl with | [_], _ => rfl,
    g_asked_list := PySem.W.mg_of X G a_asked_list,
    a_told := f_told, d_told := _, F_told := fun_mk (st := s_told) l_told c_told k_told, b_told := (fun_mk (st := s_told) l_told c_told k_told).binds (ps := ["row"]) fun _ _ _ _ _ _ us hl => match us, hl with | [_], _ => rfl,
    g_told := PySem.W.mg_of X G a_told,
    a_three_by := f_three_by, d_three_by := _, F_three_by := fun_mk (st := s_three_by) l_three_by c_three_by k_three_by, b_three_by := (fun_mk (st := s_three_by) l_three_by c_three_by k_three_by).binds (ps := ["last", "number"]) fun _ _ _ _ _ _ us hl => match us, hl with | [_, _], _ => rfl,
    g_three_by := PySem.W.mg_of X G a_three_by,
    a_three_of := f_three_of, d_three_of := _, F_three_of := fun_mk (st := s_three_of) l_three_of c_three_of k_three_of, b_three_of := (fun_mk (st := s_three_of) l_three_of c_three_of k_three_of).binds (ps := ["last", "number"]) fun _ _ _ _ _ _ us hl => match us, hl with | [_, _], _ => rfl,
    g_three_of := PySem.W.mg_of X G a_three_of,
    a__law_refused := f__law_refused, d__law_refused := _, F__law_refused := fun_mk (st := s__law_refused) l__law_refused c__law_refused k__law_refused, b__law_refused := (fun_mk (st := s__law_refused) l__law_refused c__law_refused k__law_refused).binds (ps := ["_law_ask", "_law_thing", "_law_due"]) fun _ _ _ _ _ _ us hl => match us, hl with | [_, _, _], _ => rfl,
    g__law_refused := PySem.W.mg_of X G a__law_refused,
    a__law_great := f__law_great, d__law_great := _, F__law_great := fun_mk (st := s__law_great) l__law_great c__law_great k__law_great, b__law_great := (fun_mk (st := s__law_great) l__law_great c__law_great k__law_great).binds (ps := ["_law_far"]) fun _ _ _ _ _ _ us hl => match us, hl with | [_], _ => rfl,
    g__law_great := PySem.W.mg_of X G a__law_great,
    a_law := f_law, d_law := _, F_law := fun_mk (st := s_law) l_law c_law k_law, b_law := (fun_mk (st := s_law) l_law c_law k_law).binds (ps := ["_law_script"]) fun _ _ _ _ _ _ us hl => match us, hl with | [_], _ => rfl,
    g_law := PySem.W.mg_of X G a_law,
    q_law := q_law, p_law := p_law, C_law := func_mk (st := s_law) l_law c_law,
    c_Answer := e_Answer, g_Answer := PySem.W.mg_of X G z_Answer,
    c_Can := e_Can, g_Can := PySem.W.mg_of X G z_Can,
    i_Can := ⟨⟨p1_Can, p2_Can, p3_Can, p4_Can⟩, p5_Can, p6_Can, p7_Can, p8_Can⟩,
    n_Can := ⟨p9_Can, ni_Can, pk_Can⟩,
    s_Can := ⟨a_Can_shows, i_Can_shows, k_Can_shows⟩,
    c_Barred := e_Barred, g_Barred := PySem.W.mg_of X G z_Barred,
    i_Barred := ⟨⟨p1_Barred, p2_Barred, p3_Barred, p4_Barred⟩, p5_Barred, p6_Barred, p7_Barred, p8_Barred⟩,
    n_Barred := ⟨p9_Barred, ni_Barred, pk_Barred⟩,
    s_Barred := ⟨a_Barred_shows, i_Barred_shows, k_Barred_shows⟩,
    c_Good := e_Good, g_Good := PySem.W.mg_of X G z_Good,
    i_Good := ⟨⟨p1_Good, p2_Good, p3_Good, p4_Good⟩, p5_Good, p6_Good, p7_Good, p8_Good⟩,
    n_Good := ⟨p9_Good, ni_Good, pk_Good⟩,
    s_Good := ⟨a_Good_shows, i_Good_shows, k_Good_shows⟩,
    c_Off := e_Off, g_Off := PySem.W.mg_of X G z_Off,
    i_Off := ⟨⟨p1_Off, p2_Off, p3_Off, p4_Off⟩, p5_Off, p6_Off, p7_Off, p8_Off⟩,
    na_Off_number := na_Off,
    n_Off := ⟨p9_Off, a_Off___init__, i_Off___init__, pk_Off⟩,
    s_Off := ⟨a_Off_shows, i_Off_shows, k_Off_shows⟩,
    c_PairError := e_PairError, g_PairError := PySem.W.mg_of X G z_PairError,
    x_PairError := ⟨x_PairError, xk_PairError, xs_PairError, xt_PairError⟩,
    c_BadLast := e_BadLast, g_BadLast := PySem.W.mg_of X G z_BadLast,
    x_BadLast := ⟨x_BadLast, xk_BadLast, xs_BadLast, xt_BadLast⟩,
    y_BadLast := ⟨yg_BadLast, yh_BadLast, xs_BadLast, xd_BadLast, ya_BadLast, yn_BadLast, yt_BadLast, ym_BadLast⟩,
    em_BadLast := PySem.W.exm_ref xs_PairError xd_PairError xt_PairError yp_BadLast,
    kv_BadLast := kv_BadLast,
    c_BadNumber := e_BadNumber, g_BadNumber := PySem.W.mg_of X G z_BadNumber,
    x_BadNumber := ⟨x_BadNumber, xk_BadNumber, xs_BadNumber, xt_BadNumber⟩,
    y_BadNumber := ⟨yg_BadNumber, yh_BadNumber, xs_BadNumber, xd_BadNumber, ya_BadNumber, yn_BadNumber, yt_BadNumber, ym_BadNumber⟩,
    em_BadNumber := PySem.W.exm_ref xs_PairError xd_PairError xt_PairError yp_BadNumber,
    kv_BadNumber := kv_BadNumber,
    c_BadPlace := e_BadPlace, g_BadPlace := PySem.W.mg_of X G z_BadPlace,
    x_BadPlace := ⟨x_BadPlace, xk_BadPlace, xs_BadPlace, xt_BadPlace⟩,
    y_BadPlace := ⟨yg_BadPlace, yh_BadPlace, xs_BadPlace, xd_BadPlace, ya_BadPlace, yn_BadPlace, yt_BadPlace, ym_BadPlace⟩,
    em_BadPlace := PySem.W.exm_ref xs_PairError xd_PairError xt_PairError yp_BadPlace,
    kv_BadPlace := kv_BadPlace,
    c_BadRow := e_BadRow, g_BadRow := PySem.W.mg_of X G z_BadRow,
    x_BadRow := ⟨x_BadRow, xk_BadRow, xs_BadRow, xt_BadRow⟩,
    y_BadRow := ⟨yg_BadRow, yh_BadRow, xs_BadRow, xd_BadRow, ya_BadRow, yn_BadRow, yt_BadRow, ym_BadRow⟩,
    em_BadRow := PySem.W.exm_ref xs_PairError xd_PairError xt_PairError yp_BadRow,
    kv_BadRow := kv_BadRow,
    c_NoRow := e_NoRow, g_NoRow := PySem.W.mg_of X G z_NoRow,
    x_NoRow := ⟨x_NoRow, xk_NoRow, xs_NoRow, xt_NoRow⟩,
    y_NoRow := ⟨yg_NoRow, yh_NoRow, xs_NoRow, xd_NoRow, ya_NoRow, yn_NoRow, yt_NoRow, ym_NoRow⟩,
    em_NoRow := PySem.W.exm_ref xs_PairError xd_PairError xt_PairError yp_NoRow,
    kv_NoRow := kv_NoRow,
    c_FIRSTS := e_FIRSTS, g_FIRSTS := PySem.W.mg_of X G z_FIRSTS, k_FIRSTS := firsts_mk l_FIRSTS l_F1 l_F4 l_F5,
    t_MOST := t_MOST, c_MOST := PySem.W.mg_of X G z_MOST,
    m_ValueError := PySem.W.mg_none_of X G m_ValueError,
    m_abs := PySem.W.mg_none_of X G m_abs,
    m_all := PySem.W.mg_none_of X G m_all,
    m_bool := PySem.W.mg_none_of X G m_bool,
    m_int := PySem.W.mg_none_of X G m_int,
    m_isinstance := PySem.W.mg_none_of X G m_isinstance,
    m_len := PySem.W.mg_none_of X G m_len,
    m_list := PySem.W.mg_none_of X G m_list,
    m_range := PySem.W.mg_none_of X G m_range,
    m_sum := PySem.W.mg_none_of X G m_sum,
    ke_BadLast_BadLast := ke_BadLast_BadLast,
    ke_BadLast_BadNumber := ke_BadLast_BadNumber,
    ke_BadLast_BadPlace := ke_BadLast_BadPlace,
    ke_BadLast_BadRow := ke_BadLast_BadRow,
    ke_BadLast_NoRow := ke_BadLast_NoRow,
    ke_BadNumber_BadLast := ke_BadNumber_BadLast,
    ke_BadNumber_BadNumber := ke_BadNumber_BadNumber,
    ke_BadNumber_BadPlace := ke_BadNumber_BadPlace,
    ke_BadNumber_BadRow := ke_BadNumber_BadRow,
    ke_BadNumber_NoRow := ke_BadNumber_NoRow,
    ke_BadPlace_BadLast := ke_BadPlace_BadLast,
    ke_BadPlace_BadNumber := ke_BadPlace_BadNumber,
    ke_BadPlace_BadPlace := ke_BadPlace_BadPlace,
    ke_BadPlace_BadRow := ke_BadPlace_BadRow,
    ke_BadPlace_NoRow := ke_BadPlace_NoRow,
    ke_BadRow_BadLast := ke_BadRow_BadLast,
    ke_BadRow_BadNumber := ke_BadRow_BadNumber,
    ke_BadRow_BadPlace := ke_BadRow_BadPlace,
    ke_BadRow_BadRow := ke_BadRow_BadRow,
    ke_BadRow_NoRow := ke_BadRow_NoRow,
    ke_NoRow_BadLast := ke_NoRow_BadLast,
    ke_NoRow_BadNumber := ke_NoRow_BadNumber,
    ke_NoRow_BadPlace := ke_NoRow_BadPlace,
    ke_NoRow_BadRow := ke_NoRow_BadRow,
    ke_NoRow_NoRow := ke_NoRow_NoRow,
    kit_Can_Answer := kit_Can_Answer,
    kit_Can_Can := kit_Can_Can,
    kit_Can_Barred := kit_Can_Barred,
    kit_Can_Good := kit_Can_Good,
    kit_Can_Off := kit_Can_Off,
    kit_Barred_Answer := kit_Barred_Answer,
    kit_Barred_Can := kit_Barred_Can,
    kit_Barred_Barred := kit_Barred_Barred,
    kit_Barred_Good := kit_Barred_Good,
    kit_Barred_Off := kit_Barred_Off,
    kit_Good_Answer := kit_Good_Answer,
    kit_Good_Can := kit_Good_Can,
    kit_Good_Barred := kit_Good_Barred,
    kit_Good_Good := kit_Good_Good,
    kit_Good_Off := kit_Good_Off,
    kit_Off_Answer := kit_Off_Answer,
    kit_Off_Can := kit_Off_Can,
    kit_Off_Barred := kit_Off_Barred,
    kit_Off_Good := kit_Off_Good,
    kit_Off_Off := kit_Off_Off }
theorem all_mk {l : PySem.W.OpenLaw} {w : World} {K : PySem.W.Frag} {h : Heap} {mg : Str → Option Value} {fa e_Answer e_Can e_Barred e_Good e_Off e_PairError e_BadLast e_BadNumber e_BadPlace e_BadRow e_NoRow f_Can_shows f_Barred_shows f_is_right f_Good_shows f_Off___init__ f_Off_shows f_is_number f_asked_last f_can f_asked_row f_first_by_fours f_first_by_ones f_first_of f_both f_places_of f_at_place f_number_at f_asked_list f_told f_three_by f_three_of f__law_refused f__law_great f_law q_law p_law e_FIRSTS e_F1 e_F4 e_F5 : Addr} {t_F1 t_F4 t_F5 t_Fa0 t_Fa1 t_Fa2 t_Fa3 t_Fa4 t_Fa5 t_Fa6 t_Fa7 t_Fa8 t_Fa9 t_MOST : Tok} (tabs : ∀ y ∈ (["law"] : List Str), TabAt K mg h y) (X : K.In h) (G : h.Ns mainGlobals mg) (hfa : mg "law" = some (.ref fa))
    {oc_Can_shows kV_Can_shows dc_Can_shows pm_Can_shows cd_Can_shows ct_Can_shows : Value} {od_Can_shows an_Can_shows : Option Addr} {sl_Can_shows : Array (Option Value)}
    {oc_Barred_shows kV_Barred_shows dc_Barred_shows pm_Barred_shows cd_Barred_shows ct_Barred_shows : Value} {od_Barred_shows an_Barred_shows : Option Addr} {sl_Barred_shows : Array (Option Value)}
    {oc_is_right kV_is_right dc_is_right pm_is_right cd_is_right ct_is_right : Value} {od_is_right an_is_right : Option Addr} {sl_is_right : Array (Option Value)}
    {oc_Good_shows kV_Good_shows dc_Good_shows pm_Good_shows cd_Good_shows ct_Good_shows : Value} {od_Good_shows an_Good_shows : Option Addr} {sl_Good_shows : Array (Option Value)}
    {oc_Off___init__ kV_Off___init__ dc_Off___init__ pm_Off___init__ cd_Off___init__ ct_Off___init__ : Value} {od_Off___init__ an_Off___init__ : Option Addr} {sl_Off___init__ : Array (Option Value)}
    {oc_Off_shows kV_Off_shows dc_Off_shows pm_Off_shows cd_Off_shows ct_Off_shows : Value} {od_Off_shows an_Off_shows : Option Addr} {sl_Off_shows : Array (Option Value)}
    {oc_is_number kV_is_number dc_is_number pm_is_number cd_is_number ct_is_number : Value} {od_is_number an_is_number : Option Addr} {sl_is_number : Array (Option Value)}
    {oc_asked_last kV_asked_last dc_asked_last pm_asked_last cd_asked_last ct_asked_last : Value} {od_asked_last an_asked_last : Option Addr} {sl_asked_last : Array (Option Value)}
    {oc_can kV_can dc_can pm_can cd_can ct_can : Value} {od_can an_can : Option Addr} {sl_can : Array (Option Value)}
    {oc_asked_row kV_asked_row dc_asked_row pm_asked_row cd_asked_row ct_asked_row : Value} {od_asked_row an_asked_row : Option Addr} {sl_asked_row : Array (Option Value)}
    {oc_first_by_fours kV_first_by_fours dc_first_by_fours pm_first_by_fours cd_first_by_fours ct_first_by_fours : Value} {od_first_by_fours an_first_by_fours : Option Addr} {sl_first_by_fours : Array (Option Value)}
    {oc_first_by_ones kV_first_by_ones dc_first_by_ones pm_first_by_ones cd_first_by_ones ct_first_by_ones : Value} {od_first_by_ones an_first_by_ones : Option Addr} {sl_first_by_ones : Array (Option Value)}
    {oc_first_of kV_first_of dc_first_of pm_first_of cd_first_of ct_first_of : Value} {od_first_of an_first_of : Option Addr} {sl_first_of : Array (Option Value)}
    {oc_both kV_both dc_both pm_both cd_both ct_both : Value} {od_both an_both : Option Addr} {sl_both : Array (Option Value)}
    {oc_places_of kV_places_of dc_places_of pm_places_of cd_places_of ct_places_of : Value} {od_places_of an_places_of : Option Addr} {sl_places_of : Array (Option Value)}
    {oc_at_place kV_at_place dc_at_place pm_at_place cd_at_place ct_at_place : Value} {od_at_place an_at_place : Option Addr} {sl_at_place : Array (Option Value)}
    {oc_number_at kV_number_at dc_number_at pm_number_at cd_number_at ct_number_at : Value} {od_number_at an_number_at : Option Addr} {sl_number_at : Array (Option Value)}
    {oc_asked_list kV_asked_list dc_asked_list pm_asked_list cd_asked_list ct_asked_list : Value} {od_asked_list an_asked_list : Option Addr} {sl_asked_list : Array (Option Value)}
    {oc_told kV_told dc_told pm_told cd_told ct_told : Value} {od_told an_told : Option Addr} {sl_told : Array (Option Value)}
    {oc_three_by kV_three_by dc_three_by pm_three_by cd_three_by ct_three_by : Value} {od_three_by an_three_by : Option Addr} {sl_three_by : Array (Option Value)}
    {oc_three_of kV_three_of dc_three_of pm_three_of cd_three_of ct_three_of : Value} {od_three_of an_three_of : Option Addr} {sl_three_of : Array (Option Value)}
    {oc__law_refused kV__law_refused dc__law_refused pm__law_refused cd__law_refused ct__law_refused : Value} {od__law_refused an__law_refused : Option Addr} {sl__law_refused : Array (Option Value)}
    {oc__law_great kV__law_great dc__law_great pm__law_great cd__law_great ct__law_great : Value} {od__law_great an__law_great : Option Addr} {sl__law_great : Array (Option Value)}
    {oc_law kV_law dc_law pm_law ct_law : Value} {od_law an_law : Option Addr} {sl_law : Array (Option Value)}
    {ce_law : Value} {cdd_law : Option Addr} {cv_law : Array Value} {cs_law : Array (Option Value)}
    {n_F n_F1 n_F4 n_F5 : Nat} {dd_F1 dd_F4 dd_F5 : Option Addr} {ss_F1 ss_F4 ss_F5 : Array (Option Value)}
    (z_Answer : PySem.W.nsIn K mainGlobals "Answer" = some (some (.ref e_Answer)))
    (z_Can : PySem.W.nsIn K mainGlobals "Can" = some (some (.ref e_Can)))
    (z_Barred : PySem.W.nsIn K mainGlobals "Barred" = some (some (.ref e_Barred)))
    (z_Good : PySem.W.nsIn K mainGlobals "Good" = some (some (.ref e_Good)))
    (z_Off : PySem.W.nsIn K mainGlobals "Off" = some (some (.ref e_Off)))
    (z_PairError : PySem.W.nsIn K mainGlobals "PairError" = some (some (.ref e_PairError)))
    (z_BadLast : PySem.W.nsIn K mainGlobals "BadLast" = some (some (.ref e_BadLast)))
    (z_BadNumber : PySem.W.nsIn K mainGlobals "BadNumber" = some (some (.ref e_BadNumber)))
    (z_BadPlace : PySem.W.nsIn K mainGlobals "BadPlace" = some (some (.ref e_BadPlace)))
    (z_BadRow : PySem.W.nsIn K mainGlobals "BadRow" = some (some (.ref e_BadRow)))
    (z_NoRow : PySem.W.nsIn K mainGlobals "NoRow" = some (some (.ref e_NoRow)))
    (a_Can_shows : PySem.W.findIn K (.ref e_Can) "shows" = some (some (.ref f_Can_shows)))
    (i_Can_shows : PySem.W.isFn K (.ref f_Can_shows) = true)
    (l_Can_shows : K.lookup f_Can_shows = some ⟨oc_Can_shows, od_Can_shows, .func (PySem.W.fnOf "shows" "Can.shows" (defArgs s_Can_shows) (defBody s_Can_shows) (defScope s_Can_shows) .none kV_Can_shows dc_Can_shows pm_Can_shows an_Can_shows cd_Can_shows ct_Can_shows), sl_Can_shows⟩)
    (c_Can_shows : PySem.W.codeIn K cd_Can_shows "Can.shows" = true)
    (k_Can_shows : PySem.W.keepIn K (.ref f_Can_shows) = true)
    (a_Barred_shows : PySem.W.findIn K (.ref e_Barred) "shows" = some (some (.ref f_Barred_shows)))
    (i_Barred_shows : PySem.W.isFn K (.ref f_Barred_shows) = true)
    (l_Barred_shows : K.lookup f_Barred_shows = some ⟨oc_Barred_shows, od_Barred_shows, .func (PySem.W.fnOf "shows" "Barred.shows" (defArgs s_Barred_shows) (defBody s_Barred_shows) (defScope s_Barred_shows) .none kV_Barred_shows dc_Barred_shows pm_Barred_shows an_Barred_shows cd_Barred_shows ct_Barred_shows), sl_Barred_shows⟩)
    (c_Barred_shows : PySem.W.codeIn K cd_Barred_shows "Barred.shows" = true)
    (k_Barred_shows : PySem.W.keepIn K (.ref f_Barred_shows) = true)
    (a_is_right : PySem.W.nsIn K mainGlobals "is_right" = some (some (.ref f_is_right)))
    (l_is_right : K.lookup f_is_right = some ⟨oc_is_right, od_is_right, .func (PySem.W.fnOf "is_right" "is_right" (defArgs s_is_right) (defBody s_is_right) (defScope s_is_right) .none kV_is_right dc_is_right pm_is_right an_is_right cd_is_right ct_is_right), sl_is_right⟩)
    (c_is_right : PySem.W.codeIn K cd_is_right "is_right" = true)
    (k_is_right : PySem.W.keepIn K (.ref f_is_right) = true)
    (a_Good_shows : PySem.W.findIn K (.ref e_Good) "shows" = some (some (.ref f_Good_shows)))
    (i_Good_shows : PySem.W.isFn K (.ref f_Good_shows) = true)
    (l_Good_shows : K.lookup f_Good_shows = some ⟨oc_Good_shows, od_Good_shows, .func (PySem.W.fnOf "shows" "Good.shows" (defArgs s_Good_shows) (defBody s_Good_shows) (defScope s_Good_shows) .none kV_Good_shows dc_Good_shows pm_Good_shows an_Good_shows cd_Good_shows ct_Good_shows), sl_Good_shows⟩)
    (c_Good_shows : PySem.W.codeIn K cd_Good_shows "Good.shows" = true)
    (k_Good_shows : PySem.W.keepIn K (.ref f_Good_shows) = true)
    (a_Off___init__ : PySem.W.findIn K (.ref e_Off) "__init__" = some (some (.ref f_Off___init__)))
    (i_Off___init__ : PySem.W.isFn K (.ref f_Off___init__) = true)
    (l_Off___init__ : K.lookup f_Off___init__ = some ⟨oc_Off___init__, od_Off___init__, .func (PySem.W.fnOf "__init__" "Off.__init__" (defArgs s_Off___init__) (defBody s_Off___init__) (defScope s_Off___init__) .none kV_Off___init__ dc_Off___init__ pm_Off___init__ an_Off___init__ cd_Off___init__ ct_Off___init__), sl_Off___init__⟩)
    (c_Off___init__ : PySem.W.codeIn K cd_Off___init__ "Off.__init__" = true)
    (k_Off___init__ : PySem.W.keepIn K (.ref f_Off___init__) = true)
    (a_Off_shows : PySem.W.findIn K (.ref e_Off) "shows" = some (some (.ref f_Off_shows)))
    (i_Off_shows : PySem.W.isFn K (.ref f_Off_shows) = true)
    (l_Off_shows : K.lookup f_Off_shows = some ⟨oc_Off_shows, od_Off_shows, .func (PySem.W.fnOf "shows" "Off.shows" (defArgs s_Off_shows) (defBody s_Off_shows) (defScope s_Off_shows) .none kV_Off_shows dc_Off_shows pm_Off_shows an_Off_shows cd_Off_shows ct_Off_shows), sl_Off_shows⟩)
    (c_Off_shows : PySem.W.codeIn K cd_Off_shows "Off.shows" = true)
    (k_Off_shows : PySem.W.keepIn K (.ref f_Off_shows) = true)
    (a_is_number : PySem.W.nsIn K mainGlobals "is_number" = some (some (.ref f_is_number)))
    (l_is_number : K.lookup f_is_number = some ⟨oc_is_number, od_is_number, .func (PySem.W.fnOf "is_number" "is_number" (defArgs s_is_number) (defBody s_is_number) (defScope s_is_number) .none kV_is_number dc_is_number pm_is_number an_is_number cd_is_number ct_is_number), sl_is_number⟩)
    (c_is_number : PySem.W.codeIn K cd_is_number "is_number" = true)
    (k_is_number : PySem.W.keepIn K (.ref f_is_number) = true)
    (a_asked_last : PySem.W.nsIn K mainGlobals "asked_last" = some (some (.ref f_asked_last)))
    (l_asked_last : K.lookup f_asked_last = some ⟨oc_asked_last, od_asked_last, .func (PySem.W.fnOf "asked_last" "asked_last" (defArgs s_asked_last) (defBody s_asked_last) (defScope s_asked_last) .none kV_asked_last dc_asked_last pm_asked_last an_asked_last cd_asked_last ct_asked_last), sl_asked_last⟩)
    (c_asked_last : PySem.W.codeIn K cd_asked_last "asked_last" = true)
    (k_asked_last : PySem.W.keepIn K (.ref f_asked_last) = true)
    (a_can : PySem.W.nsIn K mainGlobals "can" = some (some (.ref f_can)))
    (l_can : K.lookup f_can = some ⟨oc_can, od_can, .func (PySem.W.fnOf "can" "can" (defArgs s_can) (defBody s_can) (defScope s_can) .none kV_can dc_can pm_can an_can cd_can ct_can), sl_can⟩)
    (c_can : PySem.W.codeIn K cd_can "can" = true)
    (k_can : PySem.W.keepIn K (.ref f_can) = true)
    (a_asked_row : PySem.W.nsIn K mainGlobals "asked_row" = some (some (.ref f_asked_row)))
    (l_asked_row : K.lookup f_asked_row = some ⟨oc_asked_row, od_asked_row, .func (PySem.W.fnOf "asked_row" "asked_row" (defArgs s_asked_row) (defBody s_asked_row) (defScope s_asked_row) .none kV_asked_row dc_asked_row pm_asked_row an_asked_row cd_asked_row ct_asked_row), sl_asked_row⟩)
    (c_asked_row : PySem.W.codeIn K cd_asked_row "asked_row" = true)
    (k_asked_row : PySem.W.keepIn K (.ref f_asked_row) = true)
    (a_first_by_fours : PySem.W.nsIn K mainGlobals "first_by_fours" = some (some (.ref f_first_by_fours)))
    (l_first_by_fours : K.lookup f_first_by_fours = some ⟨oc_first_by_fours, od_first_by_fours, .func (PySem.W.fnOf "first_by_fours" "first_by_fours" (defArgs s_first_by_fours) (defBody s_first_by_fours) (defScope s_first_by_fours) .none kV_first_by_fours dc_first_by_fours pm_first_by_fours an_first_by_fours cd_first_by_fours ct_first_by_fours), sl_first_by_fours⟩)
    (c_first_by_fours : PySem.W.codeIn K cd_first_by_fours "first_by_fours" = true)
    (k_first_by_fours : PySem.W.keepIn K (.ref f_first_by_fours) = true)
    (a_first_by_ones : PySem.W.nsIn K mainGlobals "first_by_ones" = some (some (.ref f_first_by_ones)))
    (l_first_by_ones : K.lookup f_first_by_ones = some ⟨oc_first_by_ones, od_first_by_ones, .func (PySem.W.fnOf "first_by_ones" "first_by_ones" (defArgs s_first_by_ones) (defBody s_first_by_ones) (defScope s_first_by_ones) .none kV_first_by_ones dc_first_by_ones pm_first_by_ones an_first_by_ones cd_first_by_ones ct_first_by_ones), sl_first_by_ones⟩)
    (c_first_by_ones : PySem.W.codeIn K cd_first_by_ones "first_by_ones" = true)
    (k_first_by_ones : PySem.W.keepIn K (.ref f_first_by_ones) = true)
    (a_first_of : PySem.W.nsIn K mainGlobals "first_of" = some (some (.ref f_first_of)))
    (l_first_of : K.lookup f_first_of = some ⟨oc_first_of, od_first_of, .func (PySem.W.fnOf "first_of" "first_of" (defArgs s_first_of) (defBody s_first_of) (defScope s_first_of) .none kV_first_of dc_first_of pm_first_of an_first_of cd_first_of ct_first_of), sl_first_of⟩)
    (c_first_of : PySem.W.codeIn K cd_first_of "first_of" = true)
    (k_first_of : PySem.W.keepIn K (.ref f_first_of) = true)
    (a_both : PySem.W.nsIn K mainGlobals "both" = some (some (.ref f_both)))
    (l_both : K.lookup f_both = some ⟨oc_both, od_both, .func (PySem.W.fnOf "both" "both" (defArgs s_both) (defBody s_both) (defScope s_both) .none kV_both dc_both pm_both an_both cd_both ct_both), sl_both⟩)
    (c_both : PySem.W.codeIn K cd_both "both" = true)
    (k_both : PySem.W.keepIn K (.ref f_both) = true)
    (a_places_of : PySem.W.nsIn K mainGlobals "places_of" = some (some (.ref f_places_of)))
    (l_places_of : K.lookup f_places_of = some ⟨oc_places_of, od_places_of, .func (PySem.W.fnOf "places_of" "places_of" (defArgs s_places_of) (defBody s_places_of) (defScope s_places_of) .none kV_places_of dc_places_of pm_places_of an_places_of cd_places_of ct_places_of), sl_places_of⟩)
    (c_places_of : PySem.W.codeIn K cd_places_of "places_of" = true)
    (k_places_of : PySem.W.keepIn K (.ref f_places_of) = true)
    (a_at_place : PySem.W.nsIn K mainGlobals "at_place" = some (some (.ref f_at_place)))
    (l_at_place : K.lookup f_at_place = some ⟨oc_at_place, od_at_place, .func (PySem.W.fnOf "at_place" "at_place" (defArgs s_at_place) (defBody s_at_place) (defScope s_at_place) .none kV_at_place dc_at_place pm_at_place an_at_place cd_at_place ct_at_place), sl_at_place⟩)
    (c_at_place : PySem.W.codeIn K cd_at_place "at_place" = true)
    (k_at_place : PySem.W.keepIn K (.ref f_at_place) = true)
    (a_number_at : PySem.W.nsIn K mainGlobals "number_at" = some (some (.ref f_number_at)))
    (l_number_at : K.lookup f_number_at = some ⟨oc_number_at, od_number_at, .func (PySem.W.fnOf "number_at" "number_at" (defArgs s_number_at) (defBody s_number_at) (defScope s_number_at) .none kV_number_at dc_number_at pm_number_at an_number_at cd_number_at ct_number_at), sl_number_at⟩)
    (c_number_at : PySem.W.codeIn K cd_number_at "number_at" = true)
    (k_number_at : PySem.W.keepIn K (.ref f_number_at) = true)
    (a_asked_list : PySem.W.nsIn K mainGlobals "asked_list" = some (some (.ref f_asked_list)))
    (l_asked_list : K.lookup f_asked_list = some ⟨oc_asked_list, od_asked_list, .func (PySem.W.fnOf "asked_list" "asked_list" (defArgs s_asked_list) (defBody s_asked_list) (defScope s_asked_list) .none kV_asked_list dc_asked_list pm_asked_list an_asked_list cd_asked_list ct_asked_list), sl_asked_list⟩)
    (c_asked_list : PySem.W.codeIn K cd_asked_list "asked_list" = true)
    (k_asked_list : PySem.W.keepIn K (.ref f_asked_list) = true)
    (a_told : PySem.W.nsIn K mainGlobals "told" = some (some (.ref f_told)))
    (l_told : K.lookup f_told = some ⟨oc_told, od_told, .func (PySem.W.fnOf "told" "told" (defArgs s_told) (defBody s_told) (defScope s_told) .none kV_told dc_told pm_told an_told cd_told ct_told), sl_told⟩)
    (c_told : PySem.W.codeIn K cd_told "told" = true)
    (k_told : PySem.W.keepIn K (.ref f_told) = true)
    (a_three_by : PySem.W.nsIn K mainGlobals "three_by" = some (some (.ref f_three_by)))
    (l_three_by : K.lookup f_three_by = some ⟨oc_three_by, od_three_by, .func (PySem.W.fnOf "three_by" "three_by" (defArgs s_three_by) (defBody s_three_by) (defScope s_three_by) .none kV_three_by dc_three_by pm_three_by an_three_by cd_three_by ct_three_by), sl_three_by⟩)
    (c_three_by : PySem.W.codeIn K cd_three_by "three_by" = true)
    (k_three_by : PySem.W.keepIn K (.ref f_three_by) = true)
    (a_three_of : PySem.W.nsIn K mainGlobals "three_of" = some (some (.ref f_three_of)))
    (l_three_of : K.lookup f_three_of = some ⟨oc_three_of, od_three_of, .func (PySem.W.fnOf "three_of" "three_of" (defArgs s_three_of) (defBody s_three_of) (defScope s_three_of) .none kV_three_of dc_three_of pm_three_of an_three_of cd_three_of ct_three_of), sl_three_of⟩)
    (c_three_of : PySem.W.codeIn K cd_three_of "three_of" = true)
    (k_three_of : PySem.W.keepIn K (.ref f_three_of) = true)
    (a__law_refused : PySem.W.nsIn K mainGlobals "_law_refused" = some (some (.ref f__law_refused)))
    (l__law_refused : K.lookup f__law_refused = some ⟨oc__law_refused, od__law_refused, .func (PySem.W.fnOf "_law_refused" "_law_refused" (defArgs s__law_refused) (defBody s__law_refused) (defScope s__law_refused) .none kV__law_refused dc__law_refused pm__law_refused an__law_refused cd__law_refused ct__law_refused), sl__law_refused⟩)
    (c__law_refused : PySem.W.codeIn K cd__law_refused "_law_refused" = true)
    (k__law_refused : PySem.W.keepIn K (.ref f__law_refused) = true)
    (a__law_great : PySem.W.nsIn K mainGlobals "_law_great" = some (some (.ref f__law_great)))
    (l__law_great : K.lookup f__law_great = some ⟨oc__law_great, od__law_great, .func (PySem.W.fnOf "_law_great" "_law_great" (defArgs s__law_great) (defBody s__law_great) (defScope s__law_great) .none kV__law_great dc__law_great pm__law_great an__law_great cd__law_great ct__law_great), sl__law_great⟩)
    (c__law_great : PySem.W.codeIn K cd__law_great "_law_great" = true)
    (k__law_great : PySem.W.keepIn K (.ref f__law_great) = true)
    (a_law : PySem.W.nsIn K mainGlobals "law" = some (some (.ref f_law)))
    (l_law : K.lookup f_law = some ⟨oc_law, od_law, .func (PySem.W.fnOf "law" "law" (defArgs s_law) (defBody s_law) (defScope s_law) .none kV_law dc_law pm_law an_law (.ref q_law) ct_law), sl_law⟩)
    (c_law : PySem.W.codeIn K (.ref q_law) "law" = true)
    (k_law : PySem.W.keepIn K (.ref f_law) = true)
    (qk_law : K.lookup q_law = some ⟨ce_law, cdd_law, .fields cv_law, cs_law⟩)
    (qp_law : cv_law[11]? = some (.ref p_law))
    (qh_law : PySem.W.codeHdIn K q_law p_law = true)
    (qn_law : K.lookup p_law = none)
    (p1_Can : PySem.W.plainGet K e_Can Str.empty = true)
    (p2_Can : PySem.W.hasDictIn K e_Can = true)
    (p3_Can : PySem.W.plainOver K e_Can = true)
    (p4_Can : PySem.W.findIn K (.ref e_Can) "__setattr__" = some (some (.builtin "object.__setattr__")))
    (p5_Can : PySem.W.findIn K (.ref e_Can) "__class__" = some (some (.builtin "object.__class__")))
    (p6_Can : PySem.W.specialIn K (.builtin "object.__class__") "__get__" = some (some (.builtin "getset_descriptor.__get__")))
    (p7_Can : PySem.W.takesIn K (.builtin "object.__class__") = some true)
    (p8_Can : PySem.W.mroIn K e_Can (.type "object") = some true)
    (p9_Can : PySem.W.makesIn K e_Can = true)
    (pk_Can : PySem.W.keepIn K (.ref e_Can) = true)
    (ni_Can : PySem.W.findIn K (.ref e_Can) "__init__" = some (some (.builtin "object.__init__")))
    (p1_Barred : PySem.W.plainGet K e_Barred Str.empty = true)
    (p2_Barred : PySem.W.hasDictIn K e_Barred = true)
    (p3_Barred : PySem.W.plainOver K e_Barred = true)
    (p4_Barred : PySem.W.findIn K (.ref e_Barred) "__setattr__" = some (some (.builtin "object.__setattr__")))
    (p5_Barred : PySem.W.findIn K (.ref e_Barred) "__class__" = some (some (.builtin "object.__class__")))
    (p6_Barred : PySem.W.specialIn K (.builtin "object.__class__") "__get__" = some (some (.builtin "getset_descriptor.__get__")))
    (p7_Barred : PySem.W.takesIn K (.builtin "object.__class__") = some true)
    (p8_Barred : PySem.W.mroIn K e_Barred (.type "object") = some true)
    (p9_Barred : PySem.W.makesIn K e_Barred = true)
    (pk_Barred : PySem.W.keepIn K (.ref e_Barred) = true)
    (ni_Barred : PySem.W.findIn K (.ref e_Barred) "__init__" = some (some (.builtin "object.__init__")))
    (p1_Good : PySem.W.plainGet K e_Good Str.empty = true)
    (p2_Good : PySem.W.hasDictIn K e_Good = true)
    (p3_Good : PySem.W.plainOver K e_Good = true)
    (p4_Good : PySem.W.findIn K (.ref e_Good) "__setattr__" = some (some (.builtin "object.__setattr__")))
    (p5_Good : PySem.W.findIn K (.ref e_Good) "__class__" = some (some (.builtin "object.__class__")))
    (p6_Good : PySem.W.specialIn K (.builtin "object.__class__") "__get__" = some (some (.builtin "getset_descriptor.__get__")))
    (p7_Good : PySem.W.takesIn K (.builtin "object.__class__") = some true)
    (p8_Good : PySem.W.mroIn K e_Good (.type "object") = some true)
    (p9_Good : PySem.W.makesIn K e_Good = true)
    (pk_Good : PySem.W.keepIn K (.ref e_Good) = true)
    (ni_Good : PySem.W.findIn K (.ref e_Good) "__init__" = some (some (.builtin "object.__init__")))
    (p1_Off : PySem.W.plainGet K e_Off Str.empty = true)
    (p2_Off : PySem.W.hasDictIn K e_Off = true)
    (p3_Off : PySem.W.plainOver K e_Off = true)
    (p4_Off : PySem.W.findIn K (.ref e_Off) "__setattr__" = some (some (.builtin "object.__setattr__")))
    (p5_Off : PySem.W.findIn K (.ref e_Off) "__class__" = some (some (.builtin "object.__class__")))
    (p6_Off : PySem.W.specialIn K (.builtin "object.__class__") "__get__" = some (some (.builtin "getset_descriptor.__get__")))
    (p7_Off : PySem.W.takesIn K (.builtin "object.__class__") = some true)
    (p8_Off : PySem.W.mroIn K e_Off (.type "object") = some true)
    (p9_Off : PySem.W.makesIn K e_Off = true)
    (pk_Off : PySem.W.keepIn K (.ref e_Off) = true)
    (na_Off : PySem.W.findIn K (.ref e_Off) "number" = some none)
    (x_PairError : PySem.W.excIn K e_PairError [.type "ValueError", .type "Exception", .type "BaseException", .type "object"] "ValueError.__new__" = true)
    (xk_PairError : PySem.W.keepIn K (.ref e_PairError) = true)
    (xs_PairError : PySem.W.subIn K (.ref e_PairError) (.type "BaseException") = some true)
    (xt_PairError : PySem.W.typeIn K (.ref e_PairError) = some (.type "type"))
    (xd_PairError : PySem.W.hasDictIn K e_PairError = true)
    (x_BadLast : PySem.W.excIn K e_BadLast [.type "ValueError", .type "Exception", .type "BaseException", .type "object"] "ValueError.__new__" = true)
    (xk_BadLast : PySem.W.keepIn K (.ref e_BadLast) = true)
    (xs_BadLast : PySem.W.subIn K (.ref e_BadLast) (.type "BaseException") = some true)
    (xt_BadLast : PySem.W.typeIn K (.ref e_BadLast) = some (.type "type"))
    (xd_BadLast : PySem.W.hasDictIn K e_BadLast = true)
    (yg_BadLast : PySem.W.findIn K (.ref e_BadLast) "__getattribute__" = some (some (.builtin "BaseException.__getattribute__")))
    (yh_BadLast : PySem.W.findIn K (.ref e_BadLast) "__getattr__" = some none)
    (ya_BadLast : PySem.W.findIn K (.ref e_BadLast) "__class__" = some (some (.builtin "object.__class__")))
    (yn_BadLast : PySem.W.specialIn K (.builtin "object.__class__") "__get__" = some (some (.builtin "getset_descriptor.__get__")))
    (yt_BadLast : PySem.W.takesIn K (.builtin "object.__class__") = some true)
    (ym_BadLast : PySem.W.mroIn K e_BadLast (.type "object") = some true)
    (yp_BadLast : PySem.W.subIn K (.ref e_BadLast) (.ref e_PairError) = some true)
    (kv_BadLast : PySem.W.kitOne K (.ref e_BadLast) (.type "ValueError") = some true)
    (x_BadNumber : PySem.W.excIn K e_BadNumber [.type "ValueError", .type "Exception", .type "BaseException", .type "object"] "ValueError.__new__" = true)
    (xk_BadNumber : PySem.W.keepIn K (.ref e_BadNumber) = true)
    (xs_BadNumber : PySem.W.subIn K (.ref e_BadNumber) (.type "BaseException") = some true)
    (xt_BadNumber : PySem.W.typeIn K (.ref e_BadNumber) = some (.type "type"))
    (xd_BadNumber : PySem.W.hasDictIn K e_BadNumber = true)
    (yg_BadNumber : PySem.W.findIn K (.ref e_BadNumber) "__getattribute__" = some (some (.builtin "BaseException.__getattribute__")))
    (yh_BadNumber : PySem.W.findIn K (.ref e_BadNumber) "__getattr__" = some none)
    (ya_BadNumber : PySem.W.findIn K (.ref e_BadNumber) "__class__" = some (some (.builtin "object.__class__")))
    (yn_BadNumber : PySem.W.specialIn K (.builtin "object.__class__") "__get__" = some (some (.builtin "getset_descriptor.__get__")))
    (yt_BadNumber : PySem.W.takesIn K (.builtin "object.__class__") = some true)
    (ym_BadNumber : PySem.W.mroIn K e_BadNumber (.type "object") = some true)
    (yp_BadNumber : PySem.W.subIn K (.ref e_BadNumber) (.ref e_PairError) = some true)
    (kv_BadNumber : PySem.W.kitOne K (.ref e_BadNumber) (.type "ValueError") = some true)
    (x_BadPlace : PySem.W.excIn K e_BadPlace [.type "ValueError", .type "Exception", .type "BaseException", .type "object"] "ValueError.__new__" = true)
    (xk_BadPlace : PySem.W.keepIn K (.ref e_BadPlace) = true)
    (xs_BadPlace : PySem.W.subIn K (.ref e_BadPlace) (.type "BaseException") = some true)
    (xt_BadPlace : PySem.W.typeIn K (.ref e_BadPlace) = some (.type "type"))
    (xd_BadPlace : PySem.W.hasDictIn K e_BadPlace = true)
    (yg_BadPlace : PySem.W.findIn K (.ref e_BadPlace) "__getattribute__" = some (some (.builtin "BaseException.__getattribute__")))
    (yh_BadPlace : PySem.W.findIn K (.ref e_BadPlace) "__getattr__" = some none)
    (ya_BadPlace : PySem.W.findIn K (.ref e_BadPlace) "__class__" = some (some (.builtin "object.__class__")))
    (yn_BadPlace : PySem.W.specialIn K (.builtin "object.__class__") "__get__" = some (some (.builtin "getset_descriptor.__get__")))
    (yt_BadPlace : PySem.W.takesIn K (.builtin "object.__class__") = some true)
    (ym_BadPlace : PySem.W.mroIn K e_BadPlace (.type "object") = some true)
    (yp_BadPlace : PySem.W.subIn K (.ref e_BadPlace) (.ref e_PairError) = some true)
    (kv_BadPlace : PySem.W.kitOne K (.ref e_BadPlace) (.type "ValueError") = some true)
    (x_BadRow : PySem.W.excIn K e_BadRow [.type "ValueError", .type "Exception", .type "BaseException", .type "object"] "ValueError.__new__" = true)
    (xk_BadRow : PySem.W.keepIn K (.ref e_BadRow) = true)
    (xs_BadRow : PySem.W.subIn K (.ref e_BadRow) (.type "BaseException") = some true)
    (xt_BadRow : PySem.W.typeIn K (.ref e_BadRow) = some (.type "type"))
    (xd_BadRow : PySem.W.hasDictIn K e_BadRow = true)
    (yg_BadRow : PySem.W.findIn K (.ref e_BadRow) "__getattribute__" = some (some (.builtin "BaseException.__getattribute__")))
    (yh_BadRow : PySem.W.findIn K (.ref e_BadRow) "__getattr__" = some none)
    (ya_BadRow : PySem.W.findIn K (.ref e_BadRow) "__class__" = some (some (.builtin "object.__class__")))
    (yn_BadRow : PySem.W.specialIn K (.builtin "object.__class__") "__get__" = some (some (.builtin "getset_descriptor.__get__")))
    (yt_BadRow : PySem.W.takesIn K (.builtin "object.__class__") = some true)
    (ym_BadRow : PySem.W.mroIn K e_BadRow (.type "object") = some true)
    (yp_BadRow : PySem.W.subIn K (.ref e_BadRow) (.ref e_PairError) = some true)
    (kv_BadRow : PySem.W.kitOne K (.ref e_BadRow) (.type "ValueError") = some true)
    (x_NoRow : PySem.W.excIn K e_NoRow [.type "ValueError", .type "Exception", .type "BaseException", .type "object"] "ValueError.__new__" = true)
    (xk_NoRow : PySem.W.keepIn K (.ref e_NoRow) = true)
    (xs_NoRow : PySem.W.subIn K (.ref e_NoRow) (.type "BaseException") = some true)
    (xt_NoRow : PySem.W.typeIn K (.ref e_NoRow) = some (.type "type"))
    (xd_NoRow : PySem.W.hasDictIn K e_NoRow = true)
    (yg_NoRow : PySem.W.findIn K (.ref e_NoRow) "__getattribute__" = some (some (.builtin "BaseException.__getattribute__")))
    (yh_NoRow : PySem.W.findIn K (.ref e_NoRow) "__getattr__" = some none)
    (ya_NoRow : PySem.W.findIn K (.ref e_NoRow) "__class__" = some (some (.builtin "object.__class__")))
    (yn_NoRow : PySem.W.specialIn K (.builtin "object.__class__") "__get__" = some (some (.builtin "getset_descriptor.__get__")))
    (yt_NoRow : PySem.W.takesIn K (.builtin "object.__class__") = some true)
    (ym_NoRow : PySem.W.mroIn K e_NoRow (.type "object") = some true)
    (yp_NoRow : PySem.W.subIn K (.ref e_NoRow) (.ref e_PairError) = some true)
    (kv_NoRow : PySem.W.kitOne K (.ref e_NoRow) (.type "ValueError") = some true)
    (z_FIRSTS : PySem.W.nsIn K mainGlobals "FIRSTS" = some (some (.ref e_FIRSTS)))
    (l_FIRSTS : K.lookup e_FIRSTS = some ⟨.type "dict", none, .dict #[⟨1, .int 1 t_F1, .ref e_F1⟩, ⟨4, .int 4 t_F4, .ref e_F4⟩, ⟨5, .int 5 t_F5, .ref e_F5⟩] n_F, #[]⟩)
    (l_F1 : K.lookup e_F1 = some ⟨.type "tuple", dd_F1, .seq #[.int 1 t_Fa0] n_F1, ss_F1⟩)
    (l_F4 : K.lookup e_F4 = some ⟨.type "tuple", dd_F4, .seq #[.int 1 t_Fa1, .int 5 t_Fa2, .int 3 t_Fa3, .int 4 t_Fa4] n_F4, ss_F4⟩)
    (l_F5 : K.lookup e_F5 = some ⟨.type "tuple", dd_F5, .seq #[.int 8 t_Fa5, .int 3 t_Fa6, .int 1 t_Fa7, .int 6 t_Fa8, .int 2 t_Fa9] n_F5, ss_F5⟩)
    (z_MOST : PySem.W.nsIn K mainGlobals "MOST" = some (some (.int 400 t_MOST)))
    (m_ValueError : PySem.W.nsIn K mainGlobals "ValueError" = some none)
    (m_abs : PySem.W.nsIn K mainGlobals "abs" = some none)
    (m_all : PySem.W.nsIn K mainGlobals "all" = some none)
    (m_bool : PySem.W.nsIn K mainGlobals "bool" = some none)
    (m_int : PySem.W.nsIn K mainGlobals "int" = some none)
    (m_isinstance : PySem.W.nsIn K mainGlobals "isinstance" = some none)
    (m_len : PySem.W.nsIn K mainGlobals "len" = some none)
    (m_list : PySem.W.nsIn K mainGlobals "list" = some none)
    (m_range : PySem.W.nsIn K mainGlobals "range" = some none)
    (m_sum : PySem.W.nsIn K mainGlobals "sum" = some none)
    (ke_BadLast_BadLast : PySem.W.kitOne K (.ref e_BadLast) (.ref e_BadLast) = some true)
    (ke_BadLast_BadNumber : PySem.W.kitOne K (.ref e_BadLast) (.ref e_BadNumber) = some false)
    (ke_BadLast_BadPlace : PySem.W.kitOne K (.ref e_BadLast) (.ref e_BadPlace) = some false)
    (ke_BadLast_BadRow : PySem.W.kitOne K (.ref e_BadLast) (.ref e_BadRow) = some false)
    (ke_BadLast_NoRow : PySem.W.kitOne K (.ref e_BadLast) (.ref e_NoRow) = some false)
    (ke_BadNumber_BadLast : PySem.W.kitOne K (.ref e_BadNumber) (.ref e_BadLast) = some false)
    (ke_BadNumber_BadNumber : PySem.W.kitOne K (.ref e_BadNumber) (.ref e_BadNumber) = some true)
    (ke_BadNumber_BadPlace : PySem.W.kitOne K (.ref e_BadNumber) (.ref e_BadPlace) = some false)
    (ke_BadNumber_BadRow : PySem.W.kitOne K (.ref e_BadNumber) (.ref e_BadRow) = some false)
    (ke_BadNumber_NoRow : PySem.W.kitOne K (.ref e_BadNumber) (.ref e_NoRow) = some false)
    (ke_BadPlace_BadLast : PySem.W.kitOne K (.ref e_BadPlace) (.ref e_BadLast) = some false)
    (ke_BadPlace_BadNumber : PySem.W.kitOne K (.ref e_BadPlace) (.ref e_BadNumber) = some false)
    (ke_BadPlace_BadPlace : PySem.W.kitOne K (.ref e_BadPlace) (.ref e_BadPlace) = some true)
    (ke_BadPlace_BadRow : PySem.W.kitOne K (.ref e_BadPlace) (.ref e_BadRow) = some false)
    (ke_BadPlace_NoRow : PySem.W.kitOne K (.ref e_BadPlace) (.ref e_NoRow) = some false)
    (ke_BadRow_BadLast : PySem.W.kitOne K (.ref e_BadRow) (.ref e_BadLast) = some false)
    (ke_BadRow_BadNumber : PySem.W.kitOne K (.ref e_BadRow) (.ref e_BadNumber) = some false)
    (ke_BadRow_BadPlace : PySem.W.kitOne K (.ref e_BadRow) (.ref e_BadPlace) = some false)
    (ke_BadRow_BadRow : PySem.W.kitOne K (.ref e_BadRow) (.ref e_BadRow) = some true)
    (ke_BadRow_NoRow : PySem.W.kitOne K (.ref e_BadRow) (.ref e_NoRow) = some false)
    (ke_NoRow_BadLast : PySem.W.kitOne K (.ref e_NoRow) (.ref e_BadLast) = some false)
    (ke_NoRow_BadNumber : PySem.W.kitOne K (.ref e_NoRow) (.ref e_BadNumber) = some false)
    (ke_NoRow_BadPlace : PySem.W.kitOne K (.ref e_NoRow) (.ref e_BadPlace) = some false)
    (ke_NoRow_BadRow : PySem.W.kitOne K (.ref e_NoRow) (.ref e_BadRow) = some false)
    (ke_NoRow_NoRow : PySem.W.kitOne K (.ref e_NoRow) (.ref e_NoRow) = some true)
    (kit_Can_Answer : PySem.W.kitOne K (.ref e_Can) (.ref e_Answer) = some true)
    (kit_Can_Can : PySem.W.kitOne K (.ref e_Can) (.ref e_Can) = some true)
    (kit_Can_Barred : PySem.W.kitOne K (.ref e_Can) (.ref e_Barred) = some false)
    (kit_Can_Good : PySem.W.kitOne K (.ref e_Can) (.ref e_Good) = some false)
    (kit_Can_Off : PySem.W.kitOne K (.ref e_Can) (.ref e_Off) = some false)
    (kit_Barred_Answer : PySem.W.kitOne K (.ref e_Barred) (.ref e_Answer) = some true)
    (kit_Barred_Can : PySem.W.kitOne K (.ref e_Barred) (.ref e_Can) = some false)
    (kit_Barred_Barred : PySem.W.kitOne K (.ref e_Barred) (.ref e_Barred) = some true)
    (kit_Barred_Good : PySem.W.kitOne K (.ref e_Barred) (.ref e_Good) = some false)
    (kit_Barred_Off : PySem.W.kitOne K (.ref e_Barred) (.ref e_Off) = some false)
    (kit_Good_Answer : PySem.W.kitOne K (.ref e_Good) (.ref e_Answer) = some true)
    (kit_Good_Can : PySem.W.kitOne K (.ref e_Good) (.ref e_Can) = some false)
    (kit_Good_Barred : PySem.W.kitOne K (.ref e_Good) (.ref e_Barred) = some false)
    (kit_Good_Good : PySem.W.kitOne K (.ref e_Good) (.ref e_Good) = some true)
    (kit_Good_Off : PySem.W.kitOne K (.ref e_Good) (.ref e_Off) = some false)
    (kit_Off_Answer : PySem.W.kitOne K (.ref e_Off) (.ref e_Answer) = some true)
    (kit_Off_Can : PySem.W.kitOne K (.ref e_Off) (.ref e_Can) = some false)
    (kit_Off_Barred : PySem.W.kitOne K (.ref e_Off) (.ref e_Barred) = some false)
    (kit_Off_Good : PySem.W.kitOne K (.ref e_Off) (.ref e_Good) = some false)
    (kit_Off_Off : PySem.W.kitOne K (.ref e_Off) (.ref e_Off) = some true) :
    LamX.LawAtS l w K CX0 8 63 "_law_script" mg fa h := by
  have e := hfa.symm.trans (PySem.W.mg_of X G a_law)
  cases e
  have tb : ∀ p ∈ [(q_law, p_law)], h.get? p.2 = some { cls := .none, data := .fields #[] } ∧ K.lookup p.2 = none ∧ PySem.W.CodeHd h p.1 p.2 := by
    intro p hp
    simp only [List.mem_cons, List.not_mem_nil, or_false] at hp
    rcases hp with rfl
    · exact ⟨tabs "law" (by simp) _ _ _ _ _ _ _ _ _ (PySem.W.mg_of X G a_law) l_law rfl rfl qk_law qp_law, qn_law, PySem.W.codeHd_of_K X qh_law⟩
  refine ⟨PySem.W.fnOf "law" "law" (defArgs s_law) (defBody s_law) (defScope s_law) .none kV_law dc_law pm_law an_law (.ref q_law) ct_law, [(q_law, p_law)], sp_law (all_tx X G z_Answer z_Can z_Barred z_Good z_Off z_PairError z_BadLast z_BadNumber z_BadPlace z_BadRow z_NoRow a_Can_shows i_Can_shows l_Can_shows c_Can_shows k_Can_shows a_Barred_shows i_Barred_shows l_Barred_shows c_Barred_shows k_Barred_shows a_is_right l_is_right c_is_right k_is_right a_Good_shows i_Good_shows l_Good_shows c_Good_shows k_Good_shows a_Off___init__ i_Off___init__ l_Off___init__ c_Off___init__ k_Off___init__ a_Off_shows i_Off_shows l_Off_shows c_Off_shows k_Off_shows a_is_number l_is_number c_is_number k_is_number a_asked_last l_asked_last c_asked_last k_asked_last a_can l_can c_can k_can a_asked_row l_asked_row c_asked_row k_asked_row a_first_by_fours l_first_by_fours c_first_by_fours k_first_by_fours a_first_by_ones l_first_by_ones c_first_by_ones k_first_by_ones a_first_of l_first_of c_first_of k_first_of a_both l_both c_both k_both a_places_of l_places_of c_places_of k_places_of a_at_place l_at_place c_at_place k_at_place a_number_at l_number_at c_number_at k_number_at a_asked_list l_asked_list c_asked_list k_asked_list a_told l_told c_told k_told a_three_by l_three_by c_three_by k_three_by a_three_of l_three_of c_three_of k_three_of a__law_refused l__law_refused c__law_refused k__law_refused a__law_great l__law_great c__law_great k__law_great a_law l_law c_law k_law qk_law qp_law qh_law qn_law p1_Can p2_Can p3_Can p4_Can p5_Can p6_Can p7_Can p8_Can p9_Can pk_Can ni_Can p1_Barred p2_Barred p3_Barred p4_Barred p5_Barred p6_Barred p7_Barred p8_Barred p9_Barred pk_Barred ni_Barred p1_Good p2_Good p3_Good p4_Good p5_Good p6_Good p7_Good p8_Good p9_Good pk_Good ni_Good p1_Off p2_Off p3_Off p4_Off p5_Off p6_Off p7_Off p8_Off p9_Off pk_Off na_Off x_PairError xk_PairError xs_PairError xt_PairError xd_PairError x_BadLast xk_BadLast xs_BadLast xt_BadLast xd_BadLast yg_BadLast yh_BadLast ya_BadLast yn_BadLast yt_BadLast ym_BadLast yp_BadLast kv_BadLast x_BadNumber xk_BadNumber xs_BadNumber xt_BadNumber xd_BadNumber yg_BadNumber yh_BadNumber ya_BadNumber yn_BadNumber yt_BadNumber ym_BadNumber yp_BadNumber kv_BadNumber x_BadPlace xk_BadPlace xs_BadPlace xt_BadPlace xd_BadPlace yg_BadPlace yh_BadPlace ya_BadPlace yn_BadPlace yt_BadPlace ym_BadPlace yp_BadPlace kv_BadPlace x_BadRow xk_BadRow xs_BadRow xt_BadRow xd_BadRow yg_BadRow yh_BadRow ya_BadRow yn_BadRow yt_BadRow ym_BadRow yp_BadRow kv_BadRow x_NoRow xk_NoRow xs_NoRow xt_NoRow xd_NoRow yg_NoRow yh_NoRow ya_NoRow yn_NoRow yt_NoRow ym_NoRow yp_NoRow kv_NoRow z_FIRSTS l_FIRSTS l_F1 l_F4 l_F5 z_MOST m_ValueError m_abs m_all m_bool m_int m_isinstance m_len m_list m_range m_sum ke_BadLast_BadLast ke_BadLast_BadNumber ke_BadLast_BadPlace ke_BadLast_BadRow ke_BadLast_NoRow ke_BadNumber_BadLast ke_BadNumber_BadNumber ke_BadNumber_BadPlace ke_BadNumber_BadRow ke_BadNumber_NoRow ke_BadPlace_BadLast ke_BadPlace_BadNumber ke_BadPlace_BadPlace ke_BadPlace_BadRow ke_BadPlace_NoRow ke_BadRow_BadLast ke_BadRow_BadNumber ke_BadRow_BadPlace ke_BadRow_BadRow ke_BadRow_NoRow ke_NoRow_BadLast ke_NoRow_BadNumber ke_NoRow_BadPlace ke_NoRow_BadRow ke_NoRow_NoRow kit_Can_Answer kit_Can_Can kit_Can_Barred kit_Can_Good kit_Can_Off kit_Barred_Answer kit_Barred_Can kit_Barred_Barred kit_Barred_Good kit_Barred_Off kit_Good_Answer kit_Good_Can kit_Good_Barred kit_Good_Good kit_Good_Off kit_Off_Answer kit_Off_Can kit_Off_Barred kit_Off_Good kit_Off_Off), fun p hp => (tb p hp).1, fun p hp => (tb p hp).2.1, fun p hp => (tb p hp).2.2, fun s v => .of_eq rfl, fun H a ns hl hb hT hS => ⟨a, ns, rfl, hS, hl, hb, hT (q_law, p_law) (by simp), fun _ => rfl⟩, fun base _ _ TB => ok_law (all_tx X G z_Answer z_Can z_Barred z_Good z_Off z_PairError z_BadLast z_BadNumber z_BadPlace z_BadRow z_NoRow a_Can_shows i_Can_shows l_Can_shows c_Can_shows k_Can_shows a_Barred_shows i_Barred_shows l_Barred_shows c_Barred_shows k_Barred_shows a_is_right l_is_right c_is_right k_is_right a_Good_shows i_Good_shows l_Good_shows c_Good_shows k_Good_shows a_Off___init__ i_Off___init__ l_Off___init__ c_Off___init__ k_Off___init__ a_Off_shows i_Off_shows l_Off_shows c_Off_shows k_Off_shows a_is_number l_is_number c_is_number k_is_number a_asked_last l_asked_last c_asked_last k_asked_last a_can l_can c_can k_can a_asked_row l_asked_row c_asked_row k_asked_row a_first_by_fours l_first_by_fours c_first_by_fours k_first_by_fours a_first_by_ones l_first_by_ones c_first_by_ones k_first_by_ones a_first_of l_first_of c_first_of k_first_of a_both l_both c_both k_both a_places_of l_places_of c_places_of k_places_of a_at_place l_at_place c_at_place k_at_place a_number_at l_number_at c_number_at k_number_at a_asked_list l_asked_list c_asked_list k_asked_list a_told l_told c_told k_told a_three_by l_three_by c_three_by k_three_by a_three_of l_three_of c_three_of k_three_of a__law_refused l__law_refused c__law_refused k__law_refused a__law_great l__law_great c__law_great k__law_great a_law l_law c_law k_law qk_law qp_law qh_law qn_law p1_Can p2_Can p3_Can p4_Can p5_Can p6_Can p7_Can p8_Can p9_Can pk_Can ni_Can p1_Barred p2_Barred p3_Barred p4_Barred p5_Barred p6_Barred p7_Barred p8_Barred p9_Barred pk_Barred ni_Barred p1_Good p2_Good p3_Good p4_Good p5_Good p6_Good p7_Good p8_Good p9_Good pk_Good ni_Good p1_Off p2_Off p3_Off p4_Off p5_Off p6_Off p7_Off p8_Off p9_Off pk_Off na_Off x_PairError xk_PairError xs_PairError xt_PairError xd_PairError x_BadLast xk_BadLast xs_BadLast xt_BadLast xd_BadLast yg_BadLast yh_BadLast ya_BadLast yn_BadLast yt_BadLast ym_BadLast yp_BadLast kv_BadLast x_BadNumber xk_BadNumber xs_BadNumber xt_BadNumber xd_BadNumber yg_BadNumber yh_BadNumber ya_BadNumber yn_BadNumber yt_BadNumber ym_BadNumber yp_BadNumber kv_BadNumber x_BadPlace xk_BadPlace xs_BadPlace xt_BadPlace xd_BadPlace yg_BadPlace yh_BadPlace ya_BadPlace yn_BadPlace yt_BadPlace ym_BadPlace yp_BadPlace kv_BadPlace x_BadRow xk_BadRow xs_BadRow xt_BadRow xd_BadRow yg_BadRow yh_BadRow ya_BadRow yn_BadRow yt_BadRow ym_BadRow yp_BadRow kv_BadRow x_NoRow xk_NoRow xs_NoRow xt_NoRow xd_NoRow yg_NoRow yh_NoRow ya_NoRow yn_NoRow yt_NoRow ym_NoRow yp_NoRow kv_NoRow z_FIRSTS l_FIRSTS l_F1 l_F4 l_F5 z_MOST m_ValueError m_abs m_all m_bool m_int m_isinstance m_len m_list m_range m_sum ke_BadLast_BadLast ke_BadLast_BadNumber ke_BadLast_BadPlace ke_BadLast_BadRow ke_BadLast_NoRow ke_BadNumber_BadLast ke_BadNumber_BadNumber ke_BadNumber_BadPlace ke_BadNumber_BadRow ke_BadNumber_NoRow ke_BadPlace_BadLast ke_BadPlace_BadNumber ke_BadPlace_BadPlace ke_BadPlace_BadRow ke_BadPlace_NoRow ke_BadRow_BadLast ke_BadRow_BadNumber ke_BadRow_BadPlace ke_BadRow_BadRow ke_BadRow_NoRow ke_NoRow_BadLast ke_NoRow_BadNumber ke_NoRow_BadPlace ke_NoRow_BadRow ke_NoRow_NoRow kit_Can_Answer kit_Can_Can kit_Can_Barred kit_Can_Good kit_Can_Off kit_Barred_Answer kit_Barred_Can kit_Barred_Barred kit_Barred_Good kit_Barred_Off kit_Good_Answer kit_Good_Can kit_Good_Barred kit_Good_Good kit_Good_Off kit_Off_Answer kit_Off_Can kit_Off_Barred kit_Off_Good kit_Off_Off) (TB (q_law, p_law) (by simp))⟩

end PA
open PySem PySem.W PyProof.Rows
set_option maxRecDepth 100000 in
set_option maxHeartbeats 0 in
theorem PySem.Challenge.cw_pairsapart_k08_whole_long_holds : PySem.Challenge.rw_pairsapart_k08_whole_long.Holds := by
  w_on; o_law; k_head; (case hw => w_witness2)
  k_fill
  refine PA.walk_tabs (l := PySem.Challenge.rw_pairsapart_k08_whole_long) (n := 63) (k := 8) (x := "_law_script") (CX := fun _ => L2.CX0) ["law"] rfl (by decide) rfl ⟨rfl, by decide, by decide⟩ (by decide +kernel) (fun w h Y => PySem.W.km_in_of Y) ?F (fun _ _ _ _ _ h => h)
  case F =>
    intro w mg fa h _ KX G hmg tabs
    refine' PA.all_mk tabs KX G hmg ?z_Answer ?z_Can ?z_Barred ?z_Good ?z_Off ?z_PairError ?z_BadLast ?z_BadNumber ?z_BadPlace ?z_BadRow ?z_NoRow ?a_Can_shows ?i_Can_shows ?l_Can_shows ?c_Can_shows ?k_Can_shows ?a_Barred_shows ?i_Barred_shows ?l_Barred_shows ?c_Barred_shows ?k_Barred_shows ?a_is_right ?l_is_right ?c_is_right ?k_is_right ?a_Good_shows ?i_Good_shows ?l_Good_shows ?c_Good_shows ?k_Good_shows ?a_Off___init__ ?i_Off___init__ ?l_Off___init__ ?c_Off___init__ ?k_Off___init__ ?a_Off_shows ?i_Off_shows ?l_Off_shows ?c_Off_shows ?k_Off_shows ?a_is_number ?l_is_number ?c_is_number ?k_is_number ?a_asked_last ?l_asked_last ?c_asked_last ?k_asked_last ?a_can ?l_can ?c_can ?k_can ?a_asked_row ?l_asked_row ?c_asked_row ?k_asked_row ?a_first_by_fours ?l_first_by_fours ?c_first_by_fours ?k_first_by_fours ?a_first_by_ones ?l_first_by_ones ?c_first_by_ones ?k_first_by_ones ?a_first_of ?l_first_of ?c_first_of ?k_first_of ?a_both ?l_both ?c_both ?k_both ?a_places_of ?l_places_of ?c_places_of ?k_places_of ?a_at_place ?l_at_place ?c_at_place ?k_at_place ?a_number_at ?l_number_at ?c_number_at ?k_number_at ?a_asked_list ?l_asked_list ?c_asked_list ?k_asked_list ?a_told ?l_told ?c_told ?k_told ?a_three_by ?l_three_by ?c_three_by ?k_three_by ?a_three_of ?l_three_of ?c_three_of ?k_three_of ?a__law_refused ?l__law_refused ?c__law_refused ?k__law_refused ?a__law_great ?l__law_great ?c__law_great ?k__law_great ?a_law ?l_law ?c_law ?k_law ?qk_law ?qp_law ?qh_law ?qn_law ?p1_Can ?p2_Can ?p3_Can ?p4_Can ?p5_Can ?p6_Can ?p7_Can ?p8_Can ?p9_Can ?pk_Can ?ni_Can ?p1_Barred ?p2_Barred ?p3_Barred ?p4_Barred ?p5_Barred ?p6_Barred ?p7_Barred ?p8_Barred ?p9_Barred ?pk_Barred ?ni_Barred ?p1_Good ?p2_Good ?p3_Good ?p4_Good ?p5_Good ?p6_Good ?p7_Good ?p8_Good ?p9_Good ?pk_Good ?ni_Good ?p1_Off ?p2_Off ?p3_Off ?p4_Off ?p5_Off ?p6_Off ?p7_Off ?p8_Off ?p9_Off ?pk_Off ?na_Off ?x_PairError ?xk_PairError ?xs_PairError ?xt_PairError ?xd_PairError ?x_BadLast ?xk_BadLast ?xs_BadLast ?xt_BadLast ?xd_BadLast ?yg_BadLast ?yh_BadLast ?ya_BadLast ?yn_BadLast ?yt_BadLast ?ym_BadLast ?yp_BadLast ?kv_BadLast ?x_BadNumber ?xk_BadNumber ?xs_BadNumber ?xt_BadNumber ?xd_BadNumber ?yg_BadNumber ?yh_BadNumber ?ya_BadNumber ?yn_BadNumber ?yt_BadNumber ?ym_BadNumber ?yp_BadNumber ?kv_BadNumber ?x_BadPlace ?xk_BadPlace ?xs_BadPlace ?xt_BadPlace ?xd_BadPlace ?yg_BadPlace ?yh_BadPlace ?ya_BadPlace ?yn_BadPlace ?yt_BadPlace ?ym_BadPlace ?yp_BadPlace ?kv_BadPlace ?x_BadRow ?xk_BadRow ?xs_BadRow ?xt_BadRow ?xd_BadRow ?yg_BadRow ?yh_BadRow ?ya_BadRow ?yn_BadRow ?yt_BadRow ?ym_BadRow ?yp_BadRow ?kv_BadRow ?x_NoRow ?xk_NoRow ?xs_NoRow ?xt_NoRow ?xd_NoRow ?yg_NoRow ?yh_NoRow ?ya_NoRow ?yn_NoRow ?yt_NoRow ?ym_NoRow ?yp_NoRow ?kv_NoRow ?z_FIRSTS ?l_FIRSTS ?l_F1 ?l_F4 ?l_F5 ?z_MOST ?m_ValueError ?m_abs ?m_all ?m_bool ?m_int ?m_isinstance ?m_len ?m_list ?m_range ?m_sum ?ke_BadLast_BadLast ?ke_BadLast_BadNumber ?ke_BadLast_BadPlace ?ke_BadLast_BadRow ?ke_BadLast_NoRow ?ke_BadNumber_BadLast ?ke_BadNumber_BadNumber ?ke_BadNumber_BadPlace ?ke_BadNumber_BadRow ?ke_BadNumber_NoRow ?ke_BadPlace_BadLast ?ke_BadPlace_BadNumber ?ke_BadPlace_BadPlace ?ke_BadPlace_BadRow ?ke_BadPlace_NoRow ?ke_BadRow_BadLast ?ke_BadRow_BadNumber ?ke_BadRow_BadPlace ?ke_BadRow_BadRow ?ke_BadRow_NoRow ?ke_NoRow_BadLast ?ke_NoRow_BadNumber ?ke_NoRow_BadPlace ?ke_NoRow_BadRow ?ke_NoRow_NoRow ?kit_Can_Answer ?kit_Can_Can ?kit_Can_Barred ?kit_Can_Good ?kit_Can_Off ?kit_Barred_Answer ?kit_Barred_Can ?kit_Barred_Barred ?kit_Barred_Good ?kit_Barred_Off ?kit_Good_Answer ?kit_Good_Can ?kit_Good_Barred ?kit_Good_Good ?kit_Good_Off ?kit_Off_Answer ?kit_Off_Can ?kit_Off_Barred ?kit_Off_Good ?kit_Off_Off
    (case z_Answer => k_is)
    (case z_Can => k_is)
    (case z_Barred => k_is)
    (case z_Good => k_is)
    (case z_Off => k_is)
    (case z_PairError => k_is)
    (case z_BadLast => k_is)
    (case z_BadNumber => k_is)
    (case z_BadPlace => k_is)
    (case z_BadRow => k_is)
    (case z_NoRow => k_is)
    (case a_Can_shows => k_is)
    (case i_Can_shows => k_is)
    (case l_Can_shows => k_is)
    (case c_Can_shows => k_is)
    (case k_Can_shows => k_is)
    (case a_Barred_shows => k_is)
    (case i_Barred_shows => k_is)
    (case l_Barred_shows => k_is)
    (case c_Barred_shows => k_is)
    (case k_Barred_shows => k_is)
    (case a_is_right => k_is)
    (case l_is_right => k_is)
    (case c_is_right => k_is)
    (case k_is_right => k_is)
    (case a_Good_shows => k_is)
    (case i_Good_shows => k_is)
    (case l_Good_shows => k_is)
    (case c_Good_shows => k_is)
    (case k_Good_shows => k_is)
    (case a_Off___init__ => k_is)
    (case i_Off___init__ => k_is)
    (case l_Off___init__ => k_is)
    (case c_Off___init__ => k_is)
    (case k_Off___init__ => k_is)
    (case a_Off_shows => k_is)
    (case i_Off_shows => k_is)
    (case l_Off_shows => k_is)
    (case c_Off_shows => k_is)
    (case k_Off_shows => k_is)
    (case a_is_number => k_is)
    (case l_is_number => k_is)
    (case c_is_number => k_is)
    (case k_is_number => k_is)
    (case a_asked_last => k_is)
    (case l_asked_last => k_is)
    (case c_asked_last => k_is)
    (case k_asked_last => k_is)
    (case a_can => k_is)
    (case l_can => k_is)
    (case c_can => k_is)
    (case k_can => k_is)
    (case a_asked_row => k_is)
    (case l_asked_row => k_is)
    (case c_asked_row => k_is)
    (case k_asked_row => k_is)
    (case a_first_by_fours => k_is)
    (case l_first_by_fours => k_is)
    (case c_first_by_fours => k_is)
    (case k_first_by_fours => k_is)
    (case a_first_by_ones => k_is)
    (case l_first_by_ones => k_is)
    (case c_first_by_ones => k_is)
    (case k_first_by_ones => k_is)
    (case a_first_of => k_is)
    (case l_first_of => k_is)
    (case c_first_of => k_is)
    (case k_first_of => k_is)
    (case a_both => k_is)
    (case l_both => k_is)
    (case c_both => k_is)
    (case k_both => k_is)
    (case a_places_of => k_is)
    (case l_places_of => k_is)
    (case c_places_of => k_is)
    (case k_places_of => k_is)
    (case a_at_place => k_is)
    (case l_at_place => k_is)
    (case c_at_place => k_is)
    (case k_at_place => k_is)
    (case a_number_at => k_is)
    (case l_number_at => k_is)
    (case c_number_at => k_is)
    (case k_number_at => k_is)
    (case a_asked_list => k_is)
    (case l_asked_list => k_is)
    (case c_asked_list => k_is)
    (case k_asked_list => k_is)
    (case a_told => k_is)
    (case l_told => k_is)
    (case c_told => k_is)
    (case k_told => k_is)
    (case a_three_by => k_is)
    (case l_three_by => k_is)
    (case c_three_by => k_is)
    (case k_three_by => k_is)
    (case a_three_of => k_is)
    (case l_three_of => k_is)
    (case c_three_of => k_is)
    (case k_three_of => k_is)
    (case a__law_refused => k_is)
    (case l__law_refused => k_is)
    (case c__law_refused => k_is)
    (case k__law_refused => k_is)
    (case a__law_great => k_is)
    (case l__law_great => k_is)
    (case c__law_great => k_is)
    (case k__law_great => k_is)
    (case a_law => k_is)
    (case l_law => k_is)
    (case c_law => k_is)
    (case k_law => k_is)
    (case qk_law => k_is)
    (case qp_law => rfl)
    (case qh_law => rfl)
    (case qn_law => rfl)
    (case p1_Can => k_is)
    (case p2_Can => k_is)
    (case p3_Can => k_is)
    (case p4_Can => k_is)
    (case p5_Can => k_is)
    (case p6_Can => k_is)
    (case p7_Can => k_is)
    (case p8_Can => k_is)
    (case p9_Can => k_is)
    (case pk_Can => k_is)
    (case ni_Can => k_is)
    (case p1_Barred => k_is)
    (case p2_Barred => k_is)
    (case p3_Barred => k_is)
    (case p4_Barred => k_is)
    (case p5_Barred => k_is)
    (case p6_Barred => k_is)
    (case p7_Barred => k_is)
    (case p8_Barred => k_is)
    (case p9_Barred => k_is)
    (case pk_Barred => k_is)
    (case ni_Barred => k_is)
    (case p1_Good => k_is)
    (case p2_Good => k_is)
    (case p3_Good => k_is)
    (case p4_Good => k_is)
    (case p5_Good => k_is)
    (case p6_Good => k_is)
    (case p7_Good => k_is)
    (case p8_Good => k_is)
    (case p9_Good => k_is)
    (case pk_Good => k_is)
    (case ni_Good => k_is)
    (case p1_Off => k_is)
    (case p2_Off => k_is)
    (case p3_Off => k_is)
    (case p4_Off => k_is)
    (case p5_Off => k_is)
    (case p6_Off => k_is)
    (case p7_Off => k_is)
    (case p8_Off => k_is)
    (case p9_Off => k_is)
    (case pk_Off => k_is)
    (case na_Off => k_is)
    (case x_PairError => k_exc)
    (case xk_PairError => k_is)
    (case xs_PairError => k_is)
    (case xt_PairError => k_is)
    (case xd_PairError => k_is)
    (case x_BadLast => k_exc)
    (case xk_BadLast => k_is)
    (case xs_BadLast => k_is)
    (case xt_BadLast => k_is)
    (case xd_BadLast => k_is)
    (case yg_BadLast => k_is)
    (case yh_BadLast => k_is)
    (case ya_BadLast => k_is)
    (case yn_BadLast => k_is)
    (case yt_BadLast => k_is)
    (case ym_BadLast => k_is)
    (case yp_BadLast => first | rfl | k_is)
    (case kv_BadLast => first | rfl | k_is)
    (case x_BadNumber => k_exc)
    (case xk_BadNumber => k_is)
    (case xs_BadNumber => k_is)
    (case xt_BadNumber => k_is)
    (case xd_BadNumber => k_is)
    (case yg_BadNumber => k_is)
    (case yh_BadNumber => k_is)
    (case ya_BadNumber => k_is)
    (case yn_BadNumber => k_is)
    (case yt_BadNumber => k_is)
    (case ym_BadNumber => k_is)
    (case yp_BadNumber => first | rfl | k_is)
    (case kv_BadNumber => first | rfl | k_is)
    (case x_BadPlace => k_exc)
    (case xk_BadPlace => k_is)
    (case xs_BadPlace => k_is)
    (case xt_BadPlace => k_is)
    (case xd_BadPlace => k_is)
    (case yg_BadPlace => k_is)
    (case yh_BadPlace => k_is)
    (case ya_BadPlace => k_is)
    (case yn_BadPlace => k_is)
    (case yt_BadPlace => k_is)
    (case ym_BadPlace => k_is)
    (case yp_BadPlace => first | rfl | k_is)
    (case kv_BadPlace => first | rfl | k_is)
    (case x_BadRow => k_exc)
    (case xk_BadRow => k_is)
    (case xs_BadRow => k_is)
    (case xt_BadRow => k_is)
    (case xd_BadRow => k_is)
    (case yg_BadRow => k_is)
    (case yh_BadRow => k_is)
    (case ya_BadRow => k_is)
    (case yn_BadRow => k_is)
    (case yt_BadRow => k_is)
    (case ym_BadRow => k_is)
    (case yp_BadRow => first | rfl | k_is)
    (case kv_BadRow => first | rfl | k_is)
    (case x_NoRow => k_exc)
    (case xk_NoRow => k_is)
    (case xs_NoRow => k_is)
    (case xt_NoRow => k_is)
    (case xd_NoRow => k_is)
    (case yg_NoRow => k_is)
    (case yh_NoRow => k_is)
    (case ya_NoRow => k_is)
    (case yn_NoRow => k_is)
    (case yt_NoRow => k_is)
    (case ym_NoRow => k_is)
    (case yp_NoRow => first | rfl | k_is)
    (case kv_NoRow => first | rfl | k_is)
    (case z_FIRSTS => k_is)
    (case l_FIRSTS => k_is)
    (case l_F1 => k_is)
    (case l_F4 => k_is)
    (case l_F5 => k_is)
    (case z_MOST => k_is)
    (case m_ValueError => k_is)
    (case m_abs => k_is)
    (case m_all => k_is)
    (case m_bool => k_is)
    (case m_int => k_is)
    (case m_isinstance => k_is)
    (case m_len => k_is)
    (case m_list => k_is)
    (case m_range => k_is)
    (case m_sum => k_is)
    (case ke_BadLast_BadLast => first | rfl | k_is)
    (case ke_BadLast_BadNumber => first | rfl | k_is)
    (case ke_BadLast_BadPlace => first | rfl | k_is)
    (case ke_BadLast_BadRow => first | rfl | k_is)
    (case ke_BadLast_NoRow => first | rfl | k_is)
    (case ke_BadNumber_BadLast => first | rfl | k_is)
    (case ke_BadNumber_BadNumber => first | rfl | k_is)
    (case ke_BadNumber_BadPlace => first | rfl | k_is)
    (case ke_BadNumber_BadRow => first | rfl | k_is)
    (case ke_BadNumber_NoRow => first | rfl | k_is)
    (case ke_BadPlace_BadLast => first | rfl | k_is)
    (case ke_BadPlace_BadNumber => first | rfl | k_is)
    (case ke_BadPlace_BadPlace => first | rfl | k_is)
    (case ke_BadPlace_BadRow => first | rfl | k_is)
    (case ke_BadPlace_NoRow => first | rfl | k_is)
    (case ke_BadRow_BadLast => first | rfl | k_is)
    (case ke_BadRow_BadNumber => first | rfl | k_is)
    (case ke_BadRow_BadPlace => first | rfl | k_is)
    (case ke_BadRow_BadRow => first | rfl | k_is)
    (case ke_BadRow_NoRow => first | rfl | k_is)
    (case ke_NoRow_BadLast => first | rfl | k_is)
    (case ke_NoRow_BadNumber => first | rfl | k_is)
    (case ke_NoRow_BadPlace => first | rfl | k_is)
    (case ke_NoRow_BadRow => first | rfl | k_is)
    (case ke_NoRow_NoRow => first | rfl | k_is)
    (case kit_Can_Answer => first | rfl | k_is)
    (case kit_Can_Can => first | rfl | k_is)
    (case kit_Can_Barred => first | rfl | k_is)
    (case kit_Can_Good => first | rfl | k_is)
    (case kit_Can_Off => first | rfl | k_is)
    (case kit_Barred_Answer => first | rfl | k_is)
    (case kit_Barred_Can => first | rfl | k_is)
    (case kit_Barred_Barred => first | rfl | k_is)
    (case kit_Barred_Good => first | rfl | k_is)
    (case kit_Barred_Off => first | rfl | k_is)
    (case kit_Good_Answer => first | rfl | k_is)
    (case kit_Good_Can => first | rfl | k_is)
    (case kit_Good_Barred => first | rfl | k_is)
    (case kit_Good_Good => first | rfl | k_is)
    (case kit_Good_Off => first | rfl | k_is)
    (case kit_Off_Answer => first | rfl | k_is)
    (case kit_Off_Can => first | rfl | k_is)
    (case kit_Off_Barred => first | rfl | k_is)
    (case kit_Off_Good => first | rfl | k_is)
    (case kit_Off_Off => first | rfl | k_is)

