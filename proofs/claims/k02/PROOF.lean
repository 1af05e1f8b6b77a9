import PyProof.Rows.All
import Wide.All
import OpenK.AllK
import Wide.FinOn
import HandS.ForMost
import HandS.ForExc
import HandS.IsInst
import HandS.Evl
import HandS.WideBits
import HandS.SetFor
import HandS.EndBits
import HandS.TupLe
import HandS.SortInts
import HandS.Conv
import HandS.CallRecv
import HandS.Style
import KE.IntBitsLaws
import HandS.ExcIs
import HandS.ExcOwn
import HandS.Lambda
import HandS.ExcCtx
import HandS.Hot
import HandS.HotCalls
import HandS.More
import HandS.Small
import HandS.Iter
import PySem.Challenge.RW_pairsapart_k02_whole_rows
/-! the mathematics of the row: first places, both places, the number at a place -/
set_option maxHeartbeats 4000000
set_option Elab.async false
set_option linter.all false
namespace PA
def f4 (p n : Int) : Int :=
  if n % 2 = 0 then 6 * p - n / 2 else if n = 4 * p - 1 then 2 * p + 1 else if n = 1 then p else if n = 2 * p + 1 then p - 1 else if n = 2 * p - 1 then 2 * p
  else if 2 * p + 1 < n then (4 * p - 1 - n) / 2 else p + 1 + (2 * p - 1 - n) / 2
def f1 (p n : Int) : Int :=
  if n % 2 = 0 then 6 * p + 2 - n / 2 else if n = 4 * p + 1 then 2 * p + 1 else if n = 1 then p + 1 else if n = 2 * p - 1 then 2 * p + 2
  else if 2 * p < n then (4 * p + 1 - n) / 2 else p + 2 + (2 * p - 1 - n) / 2
def small (l : Int) : List Int := if l = 1 then [1] else if l = 4 then [1, 5, 3, 4] else if l = 5 then [8, 3, 1, 6, 2] else []
/-- the first place, from 0 on -/
def fst (l n : Int) : Int :=
  if l < 6 then (small l).getD (n - 1).toNat 0 - 1 else if l % 4 = 0 then f4 (l / 4) n - 1 else f1 (l / 4) n - 1
/-- a last number that can -/
def Can (l : Int) : Prop := 1 ≤ l ∧ l % 4 < 2
instance (l : Int) : Decidable (Can l) := inferInstanceAs (Decidable (_ ∧ _))
/-- n is a number of the row to l that stands at the place q -/
def At (l q n : Int) : Prop := (1 ≤ n ∧ n ≤ l) ∧ (q = fst l n ∨ q = fst l n + n)
instance (l q n : Int) : Decidable (At l q n) := inferInstanceAs (Decidable (_ ∧ _))
/-- the candidates at a place -/
def cand (l q : Int) : List Int :=
  [2 * (if q + 1 - (6 * (l / 4) + 2 * (l % 4)) < 0 then -(q + 1 - (6 * (l / 4) + 2 * (l % 4))) else q + 1 - (6 * (l / 4) + 2 * (l % 4))), 1, 2, 3, 4, 5, 2 * (l / 4) - 1, 2 * (l / 4) + 1, 4 * (l / 4) - 1, 4 * (l / 4) + 1,
    4 * (l / 4) + -1 - 2 * (q + 1), 2 * (q + 1) - 4 * (l / 4) - -1, 4 * (l / 4) + 1 - 2 * (q + 1), 2 * (q + 1) - 4 * (l / 4) - 1, 4 * (l / 4) + 3 - 2 * (q + 1), 2 * (q + 1) - 4 * (l / 4) - 3]
def R4 (p n a : Int) : Prop := ∃ k, (n = 2 * k ∧ a = 6 * p - k ∧ 1 ≤ k ∧ k ≤ 2 * p) ∨ (n = 4 * p - 1 ∧ a = 2 * p + 1) ∨ (n = 1 ∧ a = p) ∨ (n = 2 * p + 1 ∧ a = p - 1) ∨ (n = 2 * p - 1 ∧ a = 2 * p)
  ∨ (n = 4 * p - 1 - 2 * k ∧ a = k ∧ 1 ≤ k ∧ k ≤ p - 2) ∨ (n = 2 * p - 1 - 2 * k ∧ a = p + 1 + k ∧ 1 ≤ k ∧ k ≤ p - 2)
def R1 (p n a : Int) : Prop := ∃ k, (n = 2 * k ∧ a = 6 * p + 2 - k ∧ 1 ≤ k ∧ k ≤ 2 * p) ∨ (n = 4 * p + 1 ∧ a = 2 * p + 1) ∨ (n = 1 ∧ a = p + 1) ∨ (n = 2 * p - 1 ∧ a = 2 * p + 2)
  ∨ (n = 4 * p + 1 - 2 * k ∧ a = k ∧ 1 ≤ k ∧ k ≤ p) ∨ (n = 2 * p - 1 - 2 * k ∧ a = p + 2 + k ∧ 1 ≤ k ∧ k ≤ p - 2)
theorem f4_R {p n : Int} (hp : 2 ≤ p) (h1 : 1 ≤ n) (h2 : n ≤ 4 * p) : R4 p n (f4 p n) := by
  unfold f4
  by_cases a : n % 2 = 0
  · rw [if_pos a]; exact ⟨n / 2, .inl (by omega)⟩
  rw [if_neg a]
  by_cases b : n = 4 * p - 1
  · rw [if_pos b]; exact ⟨0, .inr (.inl ⟨b, rfl⟩)⟩
  rw [if_neg b]
  by_cases c : n = 1
  · rw [if_pos c]; exact ⟨0, .inr (.inr (.inl ⟨c, rfl⟩))⟩
  rw [if_neg c]
  by_cases d : n = 2 * p + 1
  · rw [if_pos d]; exact ⟨0, .inr (.inr (.inr (.inl ⟨d, rfl⟩)))⟩
  rw [if_neg d]
  by_cases e : n = 2 * p - 1
  · rw [if_pos e]; exact ⟨0, .inr (.inr (.inr (.inr (.inl ⟨e, rfl⟩))))⟩
  rw [if_neg e]
  by_cases f : 2 * p + 1 < n
  · rw [if_pos f]; exact ⟨(4 * p - 1 - n) / 2, .inr (.inr (.inr (.inr (.inr (.inl ⟨by omega, rfl, by omega, by omega⟩)))))⟩
  · rw [if_neg f]; exact ⟨(2 * p - 1 - n) / 2, .inr (.inr (.inr (.inr (.inr (.inr ⟨by omega, rfl, by omega, by omega⟩)))))⟩
theorem f1_R {p n : Int} (hp : 2 ≤ p) (h1 : 1 ≤ n) (h2 : n ≤ 4 * p + 1) : R1 p n (f1 p n) := by
  unfold f1
  by_cases a : n % 2 = 0
  · rw [if_pos a]; exact ⟨n / 2, .inl (by omega)⟩
  rw [if_neg a]
  by_cases b : n = 4 * p + 1
  · rw [if_pos b]; exact ⟨0, .inr (.inl ⟨b, rfl⟩)⟩
  rw [if_neg b]
  by_cases c : n = 1
  · rw [if_pos c]; exact ⟨0, .inr (.inr (.inl ⟨c, rfl⟩))⟩
  rw [if_neg c]
  by_cases e : n = 2 * p - 1
  · rw [if_pos e]; exact ⟨0, .inr (.inr (.inr (.inl ⟨e, rfl⟩)))⟩
  rw [if_neg e]
  by_cases f : 2 * p < n
  · rw [if_pos f]; exact ⟨(4 * p + 1 - n) / 2, .inr (.inr (.inr (.inr (.inl ⟨by omega, rfl, by omega, by omega⟩))))⟩
  · rw [if_neg f]; exact ⟨(2 * p - 1 - n) / 2, .inr (.inr (.inr (.inr (.inr ⟨by omega, rfl, by omega, by omega⟩))))⟩
theorem R4_fun {p n a b : Int} (hp : 2 ≤ p) (h : R4 p n a) (h' : R4 p n b) : a = b := by
  obtain ⟨k, h⟩ := h
  obtain ⟨j, h'⟩ := h'
  rcases h with h | h | h | h | h | h | h <;> rcases h' with z | z | z | z | z | z | z <;> omega
theorem R1_fun {p n a b : Int} (hp : 2 ≤ p) (h : R1 p n a) (h' : R1 p n b) : a = b := by
  obtain ⟨k, h⟩ := h
  obtain ⟨j, h'⟩ := h'
  rcases h with h | h | h | h | h | h <;> rcases h' with z | z | z | z | z | z <;> omega
theorem R4_rng {p n a : Int} (hp : 2 ≤ p) (h : R4 p n a) : 1 ≤ n ∧ n ≤ 4 * p ∧ 1 ≤ a ∧ a + n ≤ 8 * p := by
  obtain ⟨k, h⟩ := h
  rcases h with h | h | h | h | h | h | h <;> omega
theorem R1_rng {p n a : Int} (hp : 2 ≤ p) (h : R1 p n a) : 1 ≤ n ∧ n ≤ 4 * p + 1 ∧ 1 ≤ a ∧ a + n ≤ 8 * p + 2 := by
  obtain ⟨k, h⟩ := h
  rcases h with h | h | h | h | h | h <;> omega
theorem R4_uniq {p n a m b q : Int} (hp : 2 ≤ p) (h : R4 p n a) (h' : R4 p m b) (hq : q = a ∨ q = a + n) (hq' : q = b ∨ q = b + m) : n = m := by
  obtain ⟨k, h⟩ := h
  obtain ⟨j, h'⟩ := h'
  rcases h with h | h | h | h | h | h | h <;> rcases h' with z | z | z | z | z | z | z <;> rcases hq with x | x <;> rcases hq' with y | y <;> omega
theorem R1_uniq {p n a m b q : Int} (hp : 2 ≤ p) (h : R1 p n a) (h' : R1 p m b) (hq : q = a ∨ q = a + n) (hq' : q = b ∨ q = b + m) : n = m := by
  obtain ⟨k, h⟩ := h
  obtain ⟨j, h'⟩ := h'
  rcases h with h | h | h | h | h | h <;> rcases h' with z | z | z | z | z | z <;> rcases hq with x | x <;> rcases hq' with y | y <;> omega
theorem R4_ex {p q : Int} (hp : 2 ≤ p) (h1 : 1 ≤ q) (h2 : q ≤ 8 * p) : ∃ n a, R4 p n a ∧ (q = a ∨ q = a + n) := by
  by_cases c1 : q ≤ p - 2
  · exact ⟨4 * p - 1 - 2 * q, q, ⟨q, .inr (.inr (.inr (.inr (.inr (.inl ⟨rfl, rfl, h1, c1⟩)))))⟩, .inl rfl⟩
  by_cases c2 : q = p - 1
  · exact ⟨2 * p + 1, p - 1, ⟨0, .inr (.inr (.inr (.inl ⟨rfl, rfl⟩)))⟩, .inl c2⟩
  by_cases c3 : q = p
  · exact ⟨1, p, ⟨0, .inr (.inr (.inl ⟨rfl, rfl⟩))⟩, .inl c3⟩
  by_cases c4 : q = p + 1
  · exact ⟨1, p, ⟨0, .inr (.inr (.inl ⟨rfl, rfl⟩))⟩, .inr c4⟩
  by_cases c5 : q < 2 * p
  · exact ⟨2 * p - 1 - 2 * (q - p - 1), p + 1 + (q - p - 1), ⟨q - p - 1, .inr (.inr (.inr (.inr (.inr (.inr ⟨rfl, rfl, by omega, by omega⟩)))))⟩, .inl (by omega)⟩
  by_cases c6 : q = 2 * p
  · exact ⟨2 * p - 1, 2 * p, ⟨0, .inr (.inr (.inr (.inr (.inl ⟨rfl, rfl⟩))))⟩, .inl c6⟩
  by_cases c7 : q = 2 * p + 1
  · exact ⟨4 * p - 1, 2 * p + 1, ⟨0, .inr (.inl ⟨rfl, rfl⟩)⟩, .inl c7⟩
  by_cases c8 : q < 3 * p
  · exact ⟨2 * p - 1 - 2 * (3 * p - q), p + 1 + (3 * p - q), ⟨3 * p - q, .inr (.inr (.inr (.inr (.inr (.inr ⟨rfl, rfl, by omega, by omega⟩)))))⟩, .inr (by omega)⟩
  by_cases c9 : q = 3 * p
  · exact ⟨2 * p + 1, p - 1, ⟨0, .inr (.inr (.inr (.inl ⟨rfl, rfl⟩)))⟩, .inr (by omega)⟩
  by_cases c10 : q < 4 * p - 1
  · exact ⟨4 * p - 1 - 2 * (4 * p - 1 - q), 4 * p - 1 - q, ⟨4 * p - 1 - q, .inr (.inr (.inr (.inr (.inr (.inl ⟨rfl, rfl, by omega, by omega⟩)))))⟩, .inr (by omega)⟩
  by_cases c11 : q = 4 * p - 1
  · exact ⟨2 * p - 1, 2 * p, ⟨0, .inr (.inr (.inr (.inr (.inl ⟨rfl, rfl⟩))))⟩, .inr (by omega)⟩
  by_cases c12 : q < 6 * p
  · exact ⟨2 * (6 * p - q), 6 * p - (6 * p - q), ⟨6 * p - q, .inl ⟨rfl, rfl, by omega, by omega⟩⟩, .inl (by omega)⟩
  by_cases c13 : q = 6 * p
  · exact ⟨4 * p - 1, 2 * p + 1, ⟨0, .inr (.inl ⟨rfl, rfl⟩)⟩, .inr (by omega)⟩
  · exact ⟨2 * (q - 6 * p), 6 * p - (q - 6 * p), ⟨q - 6 * p, .inl ⟨rfl, rfl, by omega, by omega⟩⟩, .inr (by omega)⟩
theorem R1_ex {p q : Int} (hp : 2 ≤ p) (h1 : 1 ≤ q) (h2 : q ≤ 8 * p + 2) : ∃ n a, R1 p n a ∧ (q = a ∨ q = a + n) := by
  by_cases c1 : q ≤ p
  · exact ⟨4 * p + 1 - 2 * q, q, ⟨q, .inr (.inr (.inr (.inr (.inl ⟨rfl, rfl, h1, c1⟩))))⟩, .inl rfl⟩
  by_cases c3 : q = p + 1
  · exact ⟨1, p + 1, ⟨0, .inr (.inr (.inl ⟨rfl, rfl⟩))⟩, .inl c3⟩
  by_cases c4 : q = p + 2
  · exact ⟨1, p + 1, ⟨0, .inr (.inr (.inl ⟨rfl, rfl⟩))⟩, .inr (by omega)⟩
  by_cases c5 : q < 2 * p + 1
  · exact ⟨2 * p - 1 - 2 * (q - p - 2), p + 2 + (q - p - 2), ⟨q - p - 2, .inr (.inr (.inr (.inr (.inr ⟨rfl, rfl, by omega, by omega⟩))))⟩, .inl (by omega)⟩
  by_cases c6 : q = 2 * p + 1
  · exact ⟨4 * p + 1, 2 * p + 1, ⟨0, .inr (.inl ⟨rfl, rfl⟩)⟩, .inl c6⟩
  by_cases c7 : q = 2 * p + 2
  · exact ⟨2 * p - 1, 2 * p + 2, ⟨0, .inr (.inr (.inr (.inl ⟨rfl, rfl⟩)))⟩, .inl c7⟩
  by_cases c8 : q < 3 * p + 1
  · exact ⟨2 * p - 1 - 2 * (3 * p + 1 - q), p + 2 + (3 * p + 1 - q), ⟨3 * p + 1 - q, .inr (.inr (.inr (.inr (.inr ⟨rfl, rfl, by omega, by omega⟩))))⟩, .inr (by omega)⟩
  by_cases c9 : q < 4 * p + 1
  · exact ⟨4 * p + 1 - 2 * (4 * p + 1 - q), 4 * p + 1 - q, ⟨4 * p + 1 - q, .inr (.inr (.inr (.inr (.inl ⟨rfl, rfl, by omega, by omega⟩))))⟩, .inr (by omega)⟩
  by_cases c11 : q = 4 * p + 1
  · exact ⟨2 * p - 1, 2 * p + 2, ⟨0, .inr (.inr (.inr (.inl ⟨rfl, rfl⟩)))⟩, .inr (by omega)⟩
  by_cases c12 : q < 6 * p + 2
  · exact ⟨2 * (6 * p + 2 - q), 6 * p + 2 - (6 * p + 2 - q), ⟨6 * p + 2 - q, .inl ⟨rfl, rfl, by omega, by omega⟩⟩, .inl (by omega)⟩
  by_cases c13 : q = 6 * p + 2
  · exact ⟨4 * p + 1, 2 * p + 1, ⟨0, .inr (.inl ⟨rfl, rfl⟩)⟩, .inr (by omega)⟩
  · exact ⟨2 * (q - (6 * p + 2)), 6 * p + 2 - (q - (6 * p + 2)), ⟨q - (6 * p + 2), .inl ⟨rfl, rfl, by omega, by omega⟩⟩, .inr (by omega)⟩
theorem mem_ix {l : List Int} (i : Nat) {x n : Int} (h : l[i]? = some x) (e : x = n) : n ∈ l := by
  subst e
  exact List.mem_of_getElem? h
theorem R4_cand {p n a q : Int} (hp : 2 ≤ p) (h : R4 p n a) (hq : q + 1 = a ∨ q + 1 = a + n) : n ∈ cand (4 * p) q := by
  obtain ⟨k, h⟩ := h
  have e : 4 * p / 4 = p := by omega
  have e2 : 4 * p % 4 = 0 := by omega
  unfold cand
  rw [e, e2]
  rcases h with h | h | h | h | h | h | h
  · refine mem_ix 0 rfl ?_
    split <;> omega
  · exact mem_ix 8 rfl (by omega)
  · exact mem_ix 1 rfl (by omega)
  · exact mem_ix 7 rfl (by omega)
  · exact mem_ix 6 rfl (by omega)
  · rcases hq with x | x
    · exact mem_ix 10 rfl (by omega)
    · exact mem_ix 11 rfl (by omega)
  · rcases hq with x | x
    · exact mem_ix 12 rfl (by omega)
    · exact mem_ix 13 rfl (by omega)
theorem R1_cand {p n a q : Int} (hp : 2 ≤ p) (h : R1 p n a) (hq : q + 1 = a ∨ q + 1 = a + n) : n ∈ cand (4 * p + 1) q := by
  obtain ⟨k, h⟩ := h
  have e : (4 * p + 1) / 4 = p := by omega
  have e2 : (4 * p + 1) % 4 = 1 := by omega
  unfold cand
  rw [e, e2]
  rcases h with h | h | h | h | h | h
  · refine mem_ix 0 rfl ?_
    split <;> omega
  · exact mem_ix 9 rfl (by omega)
  · exact mem_ix 1 rfl (by omega)
  · exact mem_ix 6 rfl (by omega)
  · rcases hq with x | x
    · exact mem_ix 12 rfl (by omega)
    · exact mem_ix 13 rfl (by omega)
  · rcases hq with x | x
    · exact mem_ix 14 rfl (by omega)
    · exact mem_ix 15 rfl (by omega)
/-! the three kinds of last numbers -/
theorem can_cases {l : Int} (h : Can l) : l = 1 ∨ l = 4 ∨ l = 5 ∨ (∃ p, 2 ≤ p ∧ l = 4 * p) ∨ ∃ p, 2 ≤ p ∧ l = 4 * p + 1 := by
  obtain ⟨h1, h2⟩ := h
  by_cases a : l < 6
  · have : l = 1 ∨ l = 4 ∨ l = 5 := by omega
    rcases this with e | e | e
    · exact .inl e
    · exact .inr (.inl e)
    · exact .inr (.inr (.inl e))
  · by_cases b : l % 4 = 0
    · exact .inr (.inr (.inr (.inl ⟨l / 4, by omega, by omega⟩)))
    · exact .inr (.inr (.inr (.inr ⟨l / 4, by omega, by omega⟩)))
theorem fst4 {p : Int} (hp : 2 ≤ p) (n : Int) : fst (4 * p) n = f4 p n - 1 := by
  unfold fst
  rw [if_neg (by omega), if_pos (by omega), show 4 * p / 4 = p by omega]
theorem fst1 {p : Int} (hp : 2 ≤ p) (n : Int) : fst (4 * p + 1) n = f1 p n - 1 := by
  unfold fst
  rw [if_neg (by omega), if_neg (by omega), show (4 * p + 1) / 4 = p by omega]
/-- small numbers, one by one -/
theorem five {n l : Int} (h1 : 1 ≤ n) (h2 : n ≤ l) (hl : l ≤ 5) : n = 1 ∨ n = 2 ∨ n = 3 ∨ n = 4 ∨ n = 5 := by omega
def smallOk (l : Int) : Bool :=
  [1, 2, 3, 4, 5].all fun n => decide (l < n) || ((decide (0 ≤ fst l n) && decide (fst l n + n < 2 * l)) && decide (n ∈ cand l (fst l n)) && decide (n ∈ cand l (fst l n + n)) &&
    [1, 2, 3, 4, 5].all fun m => decide (l < m) || decide (n = m) || (decide (fst l n ≠ fst l m) && decide (fst l n ≠ fst l m + m) && decide (fst l n + n ≠ fst l m) && decide (fst l n + n ≠ fst l m + m)))
theorem small_all : smallOk 1 = true ∧ smallOk 4 = true ∧ smallOk 5 = true := by decide +kernel
theorem small_use {l n : Int} (h : smallOk l = true) (hl : l ≤ 5) (h1 : 1 ≤ n) (h2 : n ≤ l) : (0 ≤ fst l n ∧ fst l n + n < 2 * l) ∧ n ∈ cand l (fst l n) ∧ n ∈ cand l (fst l n + n) ∧
    ∀ m, 1 ≤ m → m ≤ l → n ≠ m → fst l n ≠ fst l m ∧ fst l n ≠ fst l m + m ∧ fst l n + n ≠ fst l m ∧ fst l n + n ≠ fst l m + m := by
  have mem : ∀ m : Int, 1 ≤ m → m ≤ l → m ∈ ([1, 2, 3, 4, 5] : List Int) := fun m a b => by
    rcases five a b hl with e | e | e | e | e <;> subst e <;> decide
  have q := List.all_eq_true.mp h n (mem n h1 h2)
  simp only [Bool.or_eq_true, Bool.and_eq_true, decide_eq_true_eq] at q
  rcases q with q | q
  · omega
  obtain ⟨⟨⟨q1, q2⟩, q3⟩, q4⟩ := q
  refine ⟨q1, q2, q3, fun m a b ne => ?_⟩
  have z := List.all_eq_true.mp q4 m (mem m a b)
  simp only [Bool.or_eq_true, Bool.and_eq_true, decide_eq_true_eq] at z
  rcases z with (z | z) | z
  · omega
  · exact absurd z ne
  · exact ⟨z.1.1.1, z.1.1.2, z.1.2, z.2⟩
def smallEx (l : Int) : Bool := [0, 1, 2, 3, 4, 5, 6, 7, 8, 9].all fun q => decide (2 * l ≤ q) || [1, 2, 3, 4, 5].any fun n => decide (At l q n)
theorem small_ex : smallEx 1 = true ∧ smallEx 4 = true ∧ smallEx 5 = true := by decide +kernel
/-! what is said of a row, for every last number that can -/
theorem fst_rng {l n : Int} (hl : Can l) (h1 : 1 ≤ n) (h2 : n ≤ l) : 0 ≤ fst l n ∧ fst l n + n < 2 * l := by
  rcases can_cases hl with e | e | e | ⟨p, hp, e⟩ | ⟨p, hp, e⟩
  · subst e; exact (small_use small_all.1 (by omega) h1 h2).1
  · subst e; exact (small_use small_all.2.1 (by omega) h1 h2).1
  · subst e; exact (small_use small_all.2.2 (by omega) h1 h2).1
  · subst e; rw [fst4 hp]; have := R4_rng hp (f4_R hp h1 h2); omega
  · subst e; rw [fst1 hp]; have := R1_rng hp (f1_R hp h1 h2); omega
theorem small_uniq {l q n m : Int} (h : smallOk l = true) (hl : l ≤ 5) (a : At l q n) (b : At l q m) : n = m := by
  obtain ⟨⟨a1, a2⟩, a3⟩ := a
  obtain ⟨⟨b1, b2⟩, b3⟩ := b
  by_cases e : n = m
  · exact e
  · have z := (small_use h hl a1 a2).2.2.2 m b1 b2 e
    omega
theorem at_uniq {l q n m : Int} (hl : Can l) (a : At l q n) (b : At l q m) : n = m := by
  rcases can_cases hl with e | e | e | ⟨p, hp, e⟩ | ⟨p, hp, e⟩
  · subst e; exact small_uniq small_all.1 (by omega) a b
  · subst e; exact small_uniq small_all.2.1 (by omega) a b
  · subst e; exact small_uniq small_all.2.2 (by omega) a b
  · subst e
    obtain ⟨⟨a1, a2⟩, a3⟩ := a
    obtain ⟨⟨b1, b2⟩, b3⟩ := b
    rw [fst4 hp] at a3 b3
    exact R4_uniq (q := q + 1) hp (f4_R hp a1 a2) (f4_R hp b1 b2) (by omega) (by omega)
  · subst e
    obtain ⟨⟨a1, a2⟩, a3⟩ := a
    obtain ⟨⟨b1, b2⟩, b3⟩ := b
    rw [fst1 hp] at a3 b3
    exact R1_uniq (q := q + 1) hp (f1_R hp a1 a2) (f1_R hp b1 b2) (by omega) (by omega)
theorem at_cand {l q n : Int} (hl : Can l) (a : At l q n) : n ∈ cand l q := by
  rcases can_cases hl with e | e | e | ⟨p, hp, e⟩ | ⟨p, hp, e⟩
  · subst e
    obtain ⟨⟨a1, a2⟩, a3 | a3⟩ := a <;> subst a3
    · exact (small_use small_all.1 (by omega) a1 a2).2.1
    · exact (small_use small_all.1 (by omega) a1 a2).2.2.1
  · subst e
    obtain ⟨⟨a1, a2⟩, a3 | a3⟩ := a <;> subst a3
    · exact (small_use small_all.2.1 (by omega) a1 a2).2.1
    · exact (small_use small_all.2.1 (by omega) a1 a2).2.2.1
  · subst e
    obtain ⟨⟨a1, a2⟩, a3 | a3⟩ := a <;> subst a3
    · exact (small_use small_all.2.2 (by omega) a1 a2).2.1
    · exact (small_use small_all.2.2 (by omega) a1 a2).2.2.1
  · subst e
    obtain ⟨⟨a1, a2⟩, a3⟩ := a
    rw [fst4 hp] at a3
    exact R4_cand hp (f4_R hp a1 a2) (by omega)
  · subst e
    obtain ⟨⟨a1, a2⟩, a3⟩ := a
    rw [fst1 hp] at a3
    exact R1_cand hp (f1_R hp a1 a2) (by omega)
theorem small_exu {l q : Int} (h : smallEx l = true) (hl : l ≤ 5) (h1 : 0 ≤ q) (h2 : q < 2 * l) : ∃ n, At l q n := by
  have m : q ∈ ([0, 1, 2, 3, 4, 5, 6, 7, 8, 9] : List Int) := by
    have : q = 0 ∨ q = 1 ∨ q = 2 ∨ q = 3 ∨ q = 4 ∨ q = 5 ∨ q = 6 ∨ q = 7 ∨ q = 8 ∨ q = 9 := by omega
    rcases this with e | e | e | e | e | e | e | e | e | e <;> subst e <;> decide
  have z := List.all_eq_true.mp h q m
  simp only [Bool.or_eq_true, decide_eq_true_eq] at z
  rcases z with z | z
  · omega
  · obtain ⟨n, _, e⟩ := List.any_eq_true.mp z
    exact ⟨n, of_decide_eq_true e⟩
theorem at_ex {l q : Int} (hl : Can l) (h1 : 0 ≤ q) (h2 : q < 2 * l) : ∃ n, At l q n := by
  rcases can_cases hl with e | e | e | ⟨p, hp, e⟩ | ⟨p, hp, e⟩
  · subst e; exact small_exu small_ex.1 (by omega) h1 h2
  · subst e; exact small_exu small_ex.2.1 (by omega) h1 h2
  · subst e; exact small_exu small_ex.2.2 (by omega) h1 h2
  · subst e
    obtain ⟨n, a, r, hq⟩ := R4_ex (q := q + 1) hp (by omega) (by omega)
    have g := R4_rng hp r
    have e := R4_fun hp r (f4_R hp g.1 g.2.1)
    refine ⟨n, ⟨g.1, g.2.1⟩, ?_⟩
    rw [fst4 hp]
    omega
  · subst e
    obtain ⟨n, a, r, hq⟩ := R1_ex (q := q + 1) hp (by omega) (by omega)
    have g := R1_rng hp r
    have e := R1_fun hp r (f1_R hp g.1 g.2.1)
    refine ⟨n, ⟨g.1, g.2.1⟩, ?_⟩
    rw [fst1 hp]
    omega
/-- the number at a place -/
def num (l q : Int) : Int := ((cand l q).filter fun n => decide (At l q n)).headD 0
theorem filt_at {l q n : Int} (hl : Can l) (a : At l q n) : ∃ r, (cand l q).filter (fun n => decide (At l q n)) = n :: r := by
  have m : n ∈ (cand l q).filter (fun n => decide (At l q n)) := List.mem_filter.mpr ⟨at_cand hl a, decide_eq_true a⟩
  cases e : (cand l q).filter (fun n => decide (At l q n)) with
  | nil => rw [e] at m; cases m
  | cons x r =>
    have x1 : x ∈ (cand l q).filter (fun n => decide (At l q n)) := by rw [e]; exact List.mem_cons_self
    have x2 := of_decide_eq_true (List.mem_filter.mp x1).2
    exact ⟨r, by rw [at_uniq hl x2 a]⟩
theorem num_at {l q n : Int} (hl : Can l) (a : At l q n) : num l q = n := by
  obtain ⟨r, e⟩ := filt_at hl a
  unfold num
  rw [e]
  rfl
theorem at_num {l q : Int} (hl : Can l) (h1 : 0 ≤ q) (h2 : q < 2 * l) : At l q (num l q) := by
  obtain ⟨n, a⟩ := at_ex hl h1 h2
  rw [num_at hl a]
  exact a
end PA

set_option Elab.async false
set_option linter.all false
set_option maxRecDepth 100000
set_option maxHeartbeats 4000000
namespace PA
open PySem PySem.Spec PyProof.Rows L2 Evl
/-! ### names of the built-ins -/
theorem bt_int : bootBuiltins "int" = some (.type "int") := by decide +kernel
theorem bt_bool : bootBuiltins "bool" = some (.type "bool") := by decide +kernel
theorem bt_list : bootBuiltins "list" = some (.type "list") := by decide +kernel
theorem bt_tuple : bootBuiltins "tuple" = some (.type "tuple") := by decide +kernel
theorem bt_str : bootBuiltins "str" = some (.type "str") := by decide +kernel
theorem bt_set : bootBuiltins "set" = some (.type "set") := by decide +kernel
theorem bt_ValueError : bootBuiltins "ValueError" = some (.type "ValueError") := by decide +kernel
theorem bt_len : bootBuiltins "len" = some (.builtin "len") := by decide +kernel
theorem bt_abs : bootBuiltins "abs" = some (.builtin "abs") := by decide +kernel
theorem bt_sum : bootBuiltins "sum" = some (.builtin "sum") := by decide +kernel
theorem bt_min : bootBuiltins "min" = some (.builtin "min") := by decide +kernel
theorem bt_isinstance : bootBuiltins "isinstance" = some (.builtin "isinstance") := by decide +kernel
theorem bt_sorted : bootBuiltins "sorted" = some (.builtin "sorted") := by decide +kernel
theorem bt_all : bootBuiltins "all" = some (.builtin "all") := by decide +kernel
theorem bt_any : bootBuiltins "any" = some (.builtin "any") := by decide +kernel
/-! ### an item of a written dict, by a whole number -/
def KInt (K : PySem.W.Frag) (d : Addr) (k : Int) (v : V) : Prop :=
  ∃ es n u, K.lookup d = some ⟨.type "dict", none, .dict es n, #[]⟩ ∧ (∀ e ∈ es, ∃ k t, e.key = .int k t ∧ e.hash = hashInt k) ∧ findBy Value.isInt es k = some u ∧ RelV v u
def rIxI (K : PySem.W.Frag) : R2 := fun x y H Q => ∃ p z v, x = .ref p ∧ y = .int z ∧ KInt K p z v ∧ Q v H
theorem ix_kint {X : Cx} : IxR X (rIxI X.K) := by
  intro value slice pins s σ H x y v u Q I rx ry h hs
  obtain ⟨p, z, r, rfl, rfl, ⟨es, n, u0, hl, hk, e, ru⟩, q⟩ := h
  obtain rfl : v = Value.ref p := rx
  obtain ⟨t, rfl⟩ := ry
  have hm : s.heap.MapOf (PySem.intKind X.prog X.w) p (fun k => findBy Value.isInt es k) := ⟨_, es, n, I.kIn _ _ hl, ⟨rfl, rfl, rfl⟩, rfl, fun e he => by
    obtain ⟨k, t, e1, e2⟩ := hk e he
    exact ⟨k, by rw [e1]; simp [PySem.intKind, Value.isInt], e2⟩, fun _ => rfl⟩
  exact tail_any hm.typeIs slot_dict_getitem.lookup (wpAny_getItem_of (by simp [PySem.intKind, Value.isInt]) hm e ⟨r, H, I.tok _, ru, q⟩) hs
theorem rv_kint {K : PySem.W.Frag} {H : Hp} {p : Addr} {z : Int} {v : V} (h : KInt K p z v) : RV (rIxI K) (.ref p) (.int z) H v := fun H1 _ _ q => ⟨p, z, v, rfl, rfl, h, q H1 (Ex.refl H1)⟩
/-! ### what a class of errors is -/
structure ExcT (K : PySem.W.Frag) (C : Addr) : Prop where
  ex : PySem.W.excIn K C [.type "ValueError", .type "Exception", .type "BaseException", .type "object"] "ValueError.__new__" = true
  kp : PySem.W.keepIn K (.ref C) = true
  sb : PySem.W.subIn K (.ref C) (.type "BaseException") = some true
  ty : PySem.W.typeIn K (.ref C) = some (.type "type")
/-! ### whole numbers -/
def isNumT (T : String) : Option Bool := match kitB T "int" with
  | some true => (kitB T "bool").map (!·)
  | some false => some false
  | none => none
theorem num_int : isNumT "int" = some true := by decide +kernel
theorem num_bool : isNumT "bool" = some false := by decide +kernel
theorem num_none : isNumT "NoneType" = some false := by decide +kernel
theorem num_str : isNumT "str" = some false := by decide +kernel
theorem num_list : isNumT "list" = some false := by decide +kernel
theorem num_tuple : isNumT "tuple" = some false := by decide +kernel
theorem num_dict : isNumT "dict" = some false := by decide +kernel
/-- whether a value is a whole number: b -/
def Num (K : PySem.W.Frag) (H : Hp) (v : V) (b : Bool) : Prop := ∃ T, TyX K H v (.type T) ∧ isNumT T = some b
theorem Num.int {K : PySem.W.Frag} {H : Hp} (n : Int) : Num K H (.int n) true := ⟨"int", .base (.int n), num_int⟩
theorem ex_ty {K : PySem.W.Frag} {H H' : Hp} {v : V} {t : Value} (e : Ex H H') (h : TyX K H v t) : TyX K H' v t := by
  cases h with
  | base b =>
    cases b with
    | non => exact .base .non
    | bl x => exact .base (.bl x)
    | int x => exact .base (.int x)
    | str x => exact .base (.str x)
    | flt x => exact .base (.flt x)
    | lst z => exact .base (.lst (e _ _ z))
    | frz z => exact .base (.frz (e _ _ z))
    | tup z => exact .base (.tup (e _ _ z))
    | dK z => exact .base (.dK (e _ _ z))
    | dT z => exact .base (.dT (e _ _ z))
    | ins z a b c d f => exact .base (.ins (e _ _ z) a b c d f)
  | byt b => exact .byt b
  | set z => exact .set (e _ _ z)
  | kList a b => exact .kList a b
  | kTuple a b => exact .kTuple a b
  | kDict a b => exact .kDict a b
  | fTuple z => exact .fTuple (e _ _ z)
  | fDict z => exact .fDict (e _ _ z)
theorem Num.ex {K : PySem.W.Frag} {H H' : Hp} {v : V} {b : Bool} (e : Ex H H') (h : Num K H v b) : Num K H' v b := by
  obtain ⟨T, t, n⟩ := h
  exact ⟨T, ex_ty e t, n⟩
/-! ### readings -/
section
variable {K : PySem.W.Frag} {σ : L2.St} {H H' : Hp} {ta tb te tx tc : TE} {t u : TT} {x y z v : V} {D : Ends} {tu tw tz : TS} {g : TG} {r r' : R2}
theorem ev_isi {c : V} {ty cu : Value} {b : Bool} (h : EvA (tCons ta (tCons tb tNil)) σ H [x, c]) (hc : ClsV c cu) (ht : TyX K H x ty) (hk : PySem.W.kitOne K ty cu = some b) : Ev (tCB (rIsi K) (tCons ta (tCons tb tNil))) σ H (.bl b) :=
  ev_cb h fun H1 e _ q => ⟨x, c, ty, cu, b, rfl, hc, ex_ty e ht, hk, q H1 (Ex.refl H1)⟩
theorem ev_abs {i : Int} (ha : Ev ta σ H (.int i)) : Ev (tCB (fun xs H Q => ∃ i, xs = [V.int i] ∧ Q (.int (if i < 0 then -i else i)) H) (tCons ta tNil)) σ H (.int (if i < 0 then -i else i)) :=
  ev_cb (ea_cons ha ea_nil) fun H1 _ _ q => ⟨i, rfl, q H1 (Ex.refl H1)⟩
theorem rv_mulL {i j : Int} (h : -(2 ^ 64) < i ∧ i < 2 ^ 64) : RV (rI CMul fun i j => .int (i * j)) (.int i) (.int j) H (.int (i * j)) := rv_I (.inl h)
theorem rv_mulR {i j : Int} (h : -(2 ^ 64) < j ∧ j < 2 ^ 64) : RV (rI CMul fun i j => .int (i * j)) (.int i) (.int j) H (.int (i * j)) := rv_I (.inr h)
theorem rv_div {i j : Int} (h : 0 < j ∧ j < 1073741824) : RV (rI CDiv fun i j => .int (i / j)) (.int i) (.int j) H (.int (i / j)) := rv_I h
theorem rv_mod {i j : Int} (h : 0 < j) : RV (rI (fun _ j => 0 < j) fun i j => .int (i % j)) (.int i) (.int j) H (.int (i % j)) := rv_I h
/-- a < b < c -/
theorem ev_chain {w : V} {k1 k2 : Bool} (ha : Ev ta σ H x) (hb : Ev tb σ H y) (hr : RV r x y H (.bl k1)) (hc : k1 = true → Ev tc σ H w) (hr' : k1 = true → RV r' y w H (.bl k2)) : Ev (tChain r r' ta tb tc) σ H (.bl (k1 && k2)) := fun H1 e Q q =>
  ha H1 e _ fun H2 e2 => hb H2 (e.trans e2) _ fun H3 e3 => hr H3 ((e.trans e2).trans e3) _ fun H4 e4 => ⟨k1, rfl, by
    have e14 := ((e.trans e2).trans e3).trans e4
    have e' := (e2.trans e3).trans e4
    cases k1 with
    | true =>
      rw [if_pos rfl]
      exact hc rfl H4 e14 _ fun H5 e5 => hr' rfl H5 (e14.trans e5) _ fun H6 e6 => q H6 ((e'.trans e5).trans e6)
    | false =>
      rw [if_neg Bool.false_ne_true]
      exact q H4 e'⟩
def SpU (sp : Sp) (vs : List V) (H : Hp) (xs : List V) : Prop := ∀ H1, Ex H H1 → ∀ Q : VK, (∀ p H2, H1 p = none → Ex H1 H2 → H2 p = some (.tup xs) → Q (.ref p) H2) → ∀ E : XK, sp vs H1 Q E
theorem eu_call {sp : Sp} {dvs vs xs : List V} {E : XK} {ta : TA} (h : EvA ta σ H vs) (hs : SpU sp (vs ++ dvs) H xs) : EvU (tCall sp dvs E ta) σ H xs := fun H1 e Q q =>
  h H1 e _ fun H2 e2 => hs H2 (e.trans e2) Q (fun p H3 hp e3 h3 => q p H3 (fresh_back e2 hp) (e2.trans e3) h3) E
def RetU (xs : List V) (H : Hp) (Q : VK) : Prop := ∀ p H2, H p = none → Ex H H2 → H2 p = some (.tup xs) → Q (.ref p) H2
theorem RetU.go {xs : List V} {Q : VK} (k : RetU xs H Q) (e : Ex H H') {p : Addr} {H2 : Hp} (hp : H' p = none) (e2 : Ex H' H2) (h : H2 p = some (.tup xs)) : Q (.ref p) H2 := k p H2 (fresh_back e hp) (e.trans e2) h
/-- a written dict of pairs: what it holds at a key -/
theorem ev_dget {d : Addr} {kvs : List (Key × V)} {n : Int} (h : H d = some (.dK kvs)) (hd : Ev ta σ H (.ref d)) (hk : Ev tb σ H (.int n)) (hv : valV kvs (Sum.inl n) = some v) : Ev (tDGet ta tb) σ H v := fun H1 e Q q =>
  hd H1 e _ fun H2 e2 => hk H2 (e.trans e2) _ fun H3 e3 => ⟨d, v, rfl, by
    have := DGet.k (k := Sum.inl n) (((e.trans e2).trans e3) _ _ h)
    rw [hv] at this
    exact this, q H3 (e2.trans e3)⟩
theorem et_din {d : Addr} {kvs : List (Key × V)} {n : Int} (h : H d = some (.dK kvs)) (hk : Ev ta σ H (.int n)) (hd : Ev tb σ H (.ref d)) : EvT (tB (tDIn ta tb)) σ H (valV kvs (Sum.inl n)).isSome := et_B fun H1 e Q q =>
  hk H1 e _ fun H2 e2 => hd H2 (e.trans e2) _ fun H3 e3 => ⟨d, _, rfl, DGet.k (k := Sum.inl n) (((e.trans e2).trans e3) _ _ h), q H3 (e2.trans e3)⟩
/-- a display of a dict -/
def EvPs (trs : List (TE × TE)) (σ : L2.St) (H : Hp) (ps : List (V × V)) : Prop := ∀ H1, Ex H H1 → ∀ Q : List (V × V) → Hp → Prop, (∀ H2, Ex H1 H2 → Q ps H2) → tPairs trs σ H1 Q
theorem ep_nil : EvPs [] σ H [] := fun H1 _ _ q => q H1 (Ex.refl H1)
theorem ep_cons {trs : List (TE × TE)} {ps : List (V × V)} (ha : Ev ta σ H x) (hb : Ev tb σ H y) (h : EvPs trs σ H ps) : EvPs ((ta, tb) :: trs) σ H ((x, y) :: ps) := fun H1 e _ q =>
  ha H1 e _ fun H2 e2 => hb H2 (e.trans e2) _ fun H3 e3 => h H3 ((e.trans e2).trans e3) _ fun H4 e4 => q H4 ((e2.trans e3).trans e4)
theorem q_asgD {i : Nat} {trs : List (TE × TE)} {kvs : List (Key × V)} (h : EvPs trs σ H (kvs.map fun kv => (kV kv.1, kv.2))) (hl : kvs.length ≤ 15) (k : ∀ p H1, H p = none → Ex H H1 → H1 p = some (.dK (mergeK [] kvs)) → tz D (σ.set i (some (.ref p))) H1) :
    tSeq (tAsg (tDisp trs) (gName i)) tz D σ H := fun p hp => h (upd H p (.dK [])) (Ex.new hp) _ fun H2 e2 =>
  ⟨e2 p _ upd_same, kvs, rfl, hl, k p _ hp (Ex.mut ((Ex.new hp).trans e2) hp) upd_same⟩
/-- a loop over a new tuple -/
theorem q_forNU {xs : List V} {tl : TE} {j : Nat} (h : EvU tl σ H xs) (Pv : Addr → Nat → L2.St → Hp → Prop) (h0 : ∀ p H1, H p = none → Ex H H1 → H1 p = some (.tup xs) → Pv p 0 σ H1) (hl : ∀ p i σ' H', i ≤ xs.length → Pv p i σ' H' → SqT K H' p xs)
    (hs : ∀ p i x σ' H', xs[i]? = some x → Pv p i σ' H' → tu { D with nx := Pv p (i + 1), ct := Pv p (i + 1), bk := tz D } (σ'.set j (some x)) H') (hd : ∀ p σ' H', Pv p xs.length σ' H' → tz D σ' H') : tSeq (tFor (iTup K tl) (gName j) tu) tz D σ H :=
  h H (Ex.refl H) _ fun p H1 hp e h1 => ⟨p, rfl, ⟨xs, st_of h1⟩, for_tup (Pv p) (h0 p H1 hp e h1) (hl p) (hs p) (hd p)⟩
/-- xs.extend(a new list) -/
theorem s_ext {l : Addr} {xs ys : List V} (hl : H l = some (.lst xs)) (ha : Ev ta σ H (.ref l)) (h : EvL te σ H ys) (hz : xs.length + ys.length ≤ 100000) (k : ∀ H1, Ex H H1 → D.nx σ (upd H1 l (.lst (xs ++ ys)))) :
    tDrop (tBM K "list" rExtend ta (tCons te tNil)) D σ H := ha H (Ex.refl H) _ fun H1 e1 =>
  ⟨Or.inl ⟨rfl, xs, sq_of (e1 l _ hl)⟩, h H1 e1 _ fun p H2 hp e2 h2 => ⟨l, p, xs, ys, rfl, rfl, e2 l _ (e1 l _ hl), h2, sz_of hz, k H2 (e1.trans e2)⟩⟩
theorem el_is {xs ys : List V} (h : EvL te σ H xs) (e : xs = ys) : EvL te σ H ys := by
  rw [← e]
  exact h
theorem eu_is {xs ys : List V} (h : EvU te σ H xs) (e : xs = ys) : EvU te σ H ys := by
  rw [← e]
  exact h
theorem et_yes : EvT tYes σ H true := fun H1 _ _ q => q H1 (Ex.refl H1)
end
/-! ### lists and comprehensions -/
theorem range_getD (xs : List Int) : (List.range xs.length).map (fun i => xs.getD i 0) = xs := by
  refine List.ext_getElem? fun i => ?_
  rw [List.getElem?_map]
  by_cases h : i < xs.length
  · rw [List.getElem?_eq_getElem (by rw [List.length_range]; exact h), List.getElem?_eq_getElem h, List.getElem_range]
    show some (xs.getD i 0) = _
    rw [List.getD_eq_getElem?_getD]
    simp [h]
  · rw [List.getElem?_eq_none (by rw [List.length_range]; omega), List.getElem?_eq_none (by omega)]
    rfl
theorem given_filter (p : Int → Bool) (xs : List Int) : given xs.length (fun i => p (xs.getD i 0)) (fun i => .int (xs.getD i 0)) = (xs.filter p).map V.int := by
  have e : xs.filter p = ((List.range xs.length).filter fun i => p (xs.getD i 0)).map fun i => xs.getD i 0 := by
    have := congrArg (List.filter p) (range_getD xs)
    rw [← this, List.filter_map]
    rfl
  rw [e, List.map_map]
  rfl
theorem given_all (v : Nat → V) (n : Nat) : given n (fun _ => true) v = (List.range n).map v := by
  unfold given
  rw [List.filter_eq_self.mpr (fun _ _ => rfl)]
theorem getD_of {xs : List Int} {i : Nat} {x : V} (h : (xs.map V.int)[i]? = some x) : x = .int (xs.getD i 0) := by
  rw [List.getElem?_map] at h
  cases e : xs[i]? with
  | none => rw [e] at h; cases h
  | some n =>
    rw [e] at h
    have h2 : V.int n = x := Option.some.inj h
    rw [← h2, List.getD_eq_getElem?_getD, e]
    rfl
theorem lt_of {α : Type} {xs : List α} {i : Nat} {x : α} (h : xs[i]? = some x) : i < xs.length := (List.getElem?_eq_some_iff.mp h).1
theorem inV_pair (q a b : Int) : inV (.int q) [.int a, .int b] = decide (q = a ∨ q = b) := by
  show ((a == q) || ((b == q) || false)) = _
  by_cases h1 : a = q
  · subst h1
    simp
  · by_cases h2 : b = q
    · subst h2
      simp
    · have h3 : ¬ (q = a ∨ q = b) := by omega
      rw [decide_eq_false h3]
      simp [h1, h2]
end PA

set_option Elab.async false
set_option linter.all false
set_option maxRecDepth 100000
set_option maxHeartbeats 4000000
namespace PA
open PySem PySem.Spec PyProof.Rows L2 Evl
/-! ### lists and tuples of whole numbers, compared -/
theorem eqvAll_ints : ∀ ns ms : List Int, PyData.eqvAll (ns.map PyData.int) (ms.map PyData.int) = decide (ns = ms)
  | [], [] => by simp [PyData.eqvAll]
  | [], _ :: _ => by simp [PyData.eqvAll]
  | _ :: _, [] => by simp [PyData.eqvAll]
  | n :: ns, m :: ms => by
    rw [List.map_cons, List.map_cons]
    show (PyData.eqv (.int n) (.int m) && PyData.eqvAll _ _) = _
    rw [eqvAll_ints ns ms]
    show ((n == m) && decide (ns = ms)) = _
    by_cases h : n = m
    · subst h
      simp
    · simp [h]
theorem eqv_ints (ns ms : List Int) : PyData.eqv (.list (ns.map PyData.int)) (.list (ms.map PyData.int)) = decide (ns = ms) := eqvAll_ints ns ms
theorem eqv_intsT (ns ms : List Int) : PyData.eqv (.tuple (ns.map PyData.int)) (.tuple (ms.map PyData.int)) = decide (ns = ms) := eqvAll_ints ns ms
theorem canAll_ints : ∀ ns : List Int, PyData.canLayAll0 (ns.map PyData.int) = true
  | [] => rfl
  | _ :: r => by
    rw [List.map_cons]
    show (PyData.canLay0 (.int _) && PyData.canLayAll0 _) = true
    rw [canAll_ints r]
    rfl
theorem depAll_ints : ∀ ns : List Int, PyData.depthAll (ns.map PyData.int) = 0
  | [] => rfl
  | _ :: r => by
    rw [List.map_cons]
    show max (PyData.depth (.int _)) (PyData.depthAll _) = 0
    rw [depAll_ints r]
    rfl
theorem shp_ints (ns : List Int) : SeqAt.shaped (.list (ns.map PyData.int)) = true := by
  show (PyData.canLayAll0 _ && decide (PyData.depthAll _ + 1 ≤ 64)) = true
  rw [canAll_ints, depAll_ints]
  rfl
theorem shp_intsT (ns : List Int) : SeqAt.shaped (.tuple (ns.map PyData.int)) = true := by
  show (PyData.canLayAll0 _ && decide (PyData.depthAll _ + 1 ≤ 64)) = true
  rw [canAll_ints, depAll_ints]
  rfl
theorem dpAll_ints {K : PySem.W.Frag} {H : Hp} : ∀ ns : List Int, DpAll K H (ns.map V.int) (ns.map PyData.int)
  | [] => .nil
  | n :: r => .cons (.int n) (dpAll_ints r)
section
variable {K : PySem.W.Frag} {σ : L2.St} {H H' : Hp} {ta tb te tx tc : TE} {t u : TT} {x y z v : V} {D : Ends} {tu tw tz : TS} {g : TG} {r r' : R2}
theorem rv_eqL {a b : Addr} {ns ms : List Int} (ha : SqL K H a (ns.map V.int)) (hb : SqL K H b (ms.map V.int)) : RV (rEqD K) (.ref a) (.ref b) H (.bl (decide (ns = ms))) := fun H1 e Q q =>
  ⟨_, _, .lst (ex_l e ha) (dpAll_ints ns), .lst (ex_l e hb) (dpAll_ints ms), shp_ints _, shp_ints _, by rw [eqv_ints]; exact q H1 (Ex.refl H1)⟩
theorem rv_neL {a b : Addr} {ns ms : List Int} (ha : SqL K H a (ns.map V.int)) (hb : SqL K H b (ms.map V.int)) : RV (rNeD K) (.ref a) (.ref b) H (.bl (!decide (ns = ms))) := fun H1 e Q q =>
  ⟨_, _, .lst (ex_l e ha) (dpAll_ints ns), .lst (ex_l e hb) (dpAll_ints ms), shp_ints _, shp_ints _, by rw [eqv_ints]; exact q H1 (Ex.refl H1)⟩
theorem rv_eqT {a b : Addr} {ns ms : List Int} (ha : SqT K H a (ns.map V.int)) (hb : SqT K H b (ms.map V.int)) : RV (rEqD K) (.ref a) (.ref b) H (.bl (decide (ns = ms))) := fun H1 e Q q =>
  ⟨_, _, .tup (ex_t e ha) (dpAll_ints ns), .tup (ex_t e hb) (dpAll_ints ms), shp_intsT _, shp_intsT _, by rw [eqv_intsT]; exact q H1 (Ex.refl H1)⟩
theorem rv_neT {a b : Addr} {ns ms : List Int} (ha : SqT K H a (ns.map V.int)) (hb : SqT K H b (ms.map V.int)) : RV (rNeD K) (.ref a) (.ref b) H (.bl (!decide (ns = ms))) := fun H1 e Q q =>
  ⟨_, _, .tup (ex_t e ha) (dpAll_ints ns), .tup (ex_t e hb) (dpAll_ints ms), shp_intsT _, shp_intsT _, by rw [eqv_intsT]; exact q H1 (Ex.refl H1)⟩
/-! ### readings with new lists and tuples -/
theorem ev_opU1 {xs : List V} (ha : EvU ta σ H xs) (hb : ∀ H1, Ex H H1 → Ev tb σ H1 y) (hr : ∀ p H1, H1 p = some (.tup xs) → Ex H H1 → RV r (.ref p) y H1 z) : Ev (tOp r ta tb) σ H z := fun H1 e Q q =>
  ha H1 e _ fun p H2 _ e2 h2 => hb H2 (e.trans e2) H2 (Ex.refl H2) _ fun H3 e3 => hr p H3 (e3 _ _ h2) ((e.trans e2).trans e3) H3 (Ex.refl H3) _ fun H4 e4 => q H4 ((e2.trans e3).trans e4)
theorem el_if {b : Bool} {xs : List V} (h : EvT t σ H b) (h1 : b = true → EvL ta σ H xs) (h2 : b = false → EvL tb σ H xs) : EvL (tIf t ta tb) σ H xs := fun H1 e Q q => h H1 e _ fun H2 e2 => by
  have k : ∀ te, EvL te σ H xs → te σ H2 Q := fun te ht => ht H2 (e.trans e2) _ fun p H3 hp e3 h3 => q p H3 (fresh_back e2 hp) (e2.trans e3) h3
  cases b with
  | true => exact k _ (h1 rfl)
  | false => exact k _ (h2 rfl)
/-- xs + ys, both tracked -/
theorem el_cat {xs ys : List V} (ha : ∀ H1, Ex H H1 → ∀ Q : VK, (∀ p H2, Ex H1 H2 → H2 p = some (.lst xs) → Q (.ref p) H2) → ta σ H1 Q) (hb : ∀ H1, Ex H H1 → ∀ Q : VK, (∀ p H2, Ex H1 H2 → H2 p = some (.lst ys) → Q (.ref p) H2) → tb σ H1 Q) (hz : xs.length + ys.length ≤ 100000) :
    EvL (tOp rCat ta tb) σ H (xs ++ ys) := fun H1 e Q q => ha H1 e _ fun p H2 e2 h2 => hb H2 (e.trans e2) _ fun p3 H3 e3 h3 =>
  ⟨p, p3, xs, ys, rfl, rfl, e3 _ _ h2, h3, sz_of hz, fun p4 h4 => q p4 _ (fresh_back (e2.trans e3) h4) ((e2.trans e3).trans (Ex.new h4)) upd_same⟩
/-- a tracked list, new or not -/
theorem at_new {xs : List V} (h : EvL te σ H xs) : ∀ H1, Ex H H1 → ∀ Q : VK, (∀ p H2, Ex H1 H2 → H2 p = some (.lst xs) → Q (.ref p) H2) → te σ H1 Q := fun H1 e Q q => h H1 e Q fun p H2 _ e2 h2 => q p H2 e2 h2
theorem at_old {a : Addr} {xs : List V} (h : Ev te σ H (.ref a)) (ha : H a = some (.lst xs)) : ∀ H1, Ex H H1 → ∀ Q : VK, (∀ p H2, Ex H1 H2 → H2 p = some (.lst xs) → Q (.ref p) H2) → te σ H1 Q := fun H1 e Q q => h H1 e Q fun H2 e2 => q a H2 e2 (e2 _ _ (e _ _ ha))
theorem el_rep {xs : List V} {k : Int} (ha : EvL ta σ H xs) (hb : Ev tb σ H (.int k)) (h0 : 0 ≤ k) (hk : k ≤ 100000) (hz : xs.length * k.toNat ≤ 100000) : EvL (tOp rRep ta tb) σ H (List.replicate k.toNat xs).flatten := fun H1 e Q q =>
  ha H1 e _ fun p H2 hp e2 h2 => hb H2 (e.trans e2) _ fun H3 e3 => ⟨p, k, xs, rfl, rfl, e3 _ _ h2, by omega, by omega, sz_of hz, fun p4 h4 => q p4 _ (fresh_back (e2.trans e3) h4) ((e2.trans e3).trans (Ex.new h4)) upd_same⟩
theorem ev_sum {a : Addr} {ns : List Int} (h : Ev ta σ H (.ref a)) (hs : SqL K H a (ns.map V.int)) : Ev (tCB (rSum K) (tCons ta tNil)) σ H (.int ns.sum) := ev_cb (ea_cons h ea_nil) fun H1 e _ q => ⟨a, ns, rfl, ex_l e hs, q H1 (Ex.refl H1)⟩
theorem ev_cbL {xs : List V} {rr : List V → Hp → VK → Prop} (h : EvL ta σ H xs) (hr : ∀ p H1, H1 p = some (.lst xs) → Ex H H1 → RC rr [.ref p] H1 z) : Ev (tCB rr (tCons ta tNil)) σ H z := fun H1 e Q q =>
  h H1 e _ fun p H2 _ e2 h2 => hr p H2 h2 (e.trans e2) H2 (Ex.refl H2) _ fun H3 e3 => q H3 (e2.trans e3)
theorem ev_cbU {xs : List V} {rr : List V → Hp → VK → Prop} (h : EvU ta σ H xs) (hr : ∀ p H1, H1 p = some (.tup xs) → Ex H H1 → RC rr [.ref p] H1 z) : Ev (tCB rr (tCons ta tNil)) σ H z := fun H1 e Q q =>
  h H1 e _ fun p H2 _ e2 h2 => hr p H2 h2 (e.trans e2) H2 (Ex.refl H2) _ fun H3 e3 => q H3 (e2.trans e3)
theorem rc_sum {a : Addr} {ns : List Int} (hs : SqL K H a (ns.map V.int)) : RC (rSum K) [.ref a] H (.int ns.sum) := fun H1 e _ q => ⟨a, ns, rfl, ex_l e hs, q H1 (Ex.refl H1)⟩
theorem ev_lenT {a : Addr} {xs : List V} (h : Ev ta σ H (.ref a)) (hs : SqT K H a xs) : Ev (tCB (rLenS K) (tCons ta tNil)) σ H (.int (xs.length : Int)) := ev_cb (ea_cons h ea_nil) fun H1 e _ q => ⟨a, xs, rfl, .inr (ex_t e hs), q H1 (Ex.refl H1)⟩
theorem ev_min2 {i j : Int} (ha : Ev ta σ H (.int i)) (hb : Ev tb σ H (.int j)) : Ev (tCB (fun xs H Q => ∃ i j, xs = [V.int i, V.int j] ∧ Q (.int (if j < i then j else i)) H) (tCons ta (tCons tb tNil))) σ H (.int (if j < i then j else i)) :=
  ev_cb (ea_cons ha (ea_cons hb ea_nil)) fun H1 _ _ q => ⟨i, j, rfl, q H1 (Ex.refl H1)⟩
theorem rv_pow {i j : Int} (h : 0 ≤ j ∧ j ≤ 1000000 ∧ i.natAbs < 2 ^ 64) : RV (rI CPow fun i j => .int (i ^ j.toNat)) (.int i) (.int j) H (.int (i ^ j.toNat)) := rv_I h
theorem rv_mulX {i j : Int} {m n : Nat} (hi : Builtin.Int.intBits i ≤ m) (hj : Builtin.Int.intBits j ≤ n) (h : m + n ≤ 134217728) : RV (rI CMulX fun i j => .int (i * j)) (.int i) (.int j) H (.int (i * j)) := rv_I (by
  show (Builtin.Int.intBits i : Int) + (Builtin.Int.intBits j : Int) ≤ 134217728
  omega)
theorem ev_ifV {b : Bool} {v w : V} (h : EvT t σ H b) (h1 : b = true → Ev ta σ H v) (h2 : b = false → Ev tb σ H w) : Ev (tIf t ta tb) σ H (if b = true then v else w) := ev_if h (fun hb => by subst hb; exact h1 rfl) (fun hb => by subst hb; exact h2 rfl)
/-! ### a range with a step upwards -/
theorem rng_up {hi c : Int} (h0 : 0 ≤ hi) (h1 : hi ≤ 1000) (hc : 0 < c) (hc2 : c ≤ 1000) : ∃ n : Nat, RgC 0 hi c n ∧ ∀ i : Nat, i < n → (i : Int) * c < hi := by
  refine ⟨(Builtin.Range.rangeSize 0 hi c).toNat, ⟨by omega, by omega, ?_, ?_⟩, fun i hi' => ?_⟩
  · unfold Builtin.Range.small Builtin.Range.rangeSize
    simp only [Builtin.Range.rangeFitsLong, Bool.and_eq_true, Bool.or_eq_true, decide_eq_true_eq, beq_iff_eq, gt_iff_lt, if_pos hc]
    by_cases z : 0 < hi
    · have q0 : 0 ≤ (hi - 0 - 1) / c := Int.ediv_nonneg (by omega) (by omega)
      have q1 : (hi - 0 - 1) / c ≤ hi - 0 - 1 := Int.ediv_le_self _ (by omega)
      rw [if_pos z]
      omega
    · rw [if_neg z]
      omega
  · unfold Builtin.Range.rangeSize
    rw [if_pos hc]
    split
    · have : 0 ≤ (hi - 0 - 1) / c := Int.ediv_nonneg (by omega) (by omega)
      omega
    · rfl
  · unfold Builtin.Range.rangeSize at hi'
    rw [if_pos hc] at hi'
    split at hi'
    · have q0 : 0 ≤ (hi - 0 - 1) / c := Int.ediv_nonneg (by omega) (by omega)
      have q1 : (i : Int) ≤ (hi - 0 - 1) / c := by omega
      have q2 : (hi - 0 - 1) / c * c ≤ hi - 0 - 1 := Int.ediv_mul_le _ (by omega)
      have q3 : (i : Int) * c ≤ (hi - 0 - 1) / c * c := Int.mul_le_mul_of_nonneg_right q1 (by omega)
      omega
    · simp at hi'
theorem q_forR3 {ta : TA} {j : Nat} {hi c : Int} (h : EvA ta σ H [.int 0, .int hi, .int c]) (h0 : 0 ≤ hi) (h1 : hi ≤ 1000) (hc : 0 < c) (hc2 : c ≤ 1000) (Pv : L2.St → Hp → Prop) (hp : ∀ H1, Ex H H1 → Pv σ H1)
    (hs : ∀ (k : Int) σ' H', 0 ≤ k → k < hi → Pv σ' H' → tu { D with nx := Pv, ct := Pv, bk := tz D } (σ'.set j (some (.int k))) H') (hd : ∀ σ' H', Pv σ' H' → tz D σ' H') : tSeq (tFor (iRng3 ta) (gName j) tu) tz D σ H := by
  obtain ⟨n, hn, hk⟩ := rng_up h0 h1 hc hc2
  refine h H (Ex.refl H) _ fun H1 e => ⟨0, hi, c, n, rfl, hn, for_rangeC (lo := 0) (c := c) (n := n) (D := { D with nx := tz D }) (fun _ => Pv) (hp H1 e) (fun i σ' H' hi' p => ?_) hd⟩
  have := hk i hi'
  exact hs (0 + (i : Int) * c) σ' H' (by have := Int.mul_nonneg (show (0 : Int) ≤ (i : Int) by omega) (show (0 : Int) ≤ c by omega); omega) (by omega) p
end
/-! ### tables -/
def tabl (n : Nat) (f : Nat → Int) : List Int := (List.range n).map f
theorem tabl_len (n : Nat) (f : Nat → Int) : (tabl n f).length = n := by
  unfold tabl
  rw [List.length_map, List.length_range]
theorem tabl_get {n j : Nat} (f : Nat → Int) (h : j < n) : (tabl n f)[j]? = some (f j) := by
  unfold tabl
  rw [List.getElem?_map, List.getElem?_eq_getElem (by rw [List.length_range]; exact h), List.getElem_range]
  rfl
theorem tabl_congr {n : Nat} {f g : Nat → Int} (h : ∀ i, i < n → f i = g i) : tabl n f = tabl n g := by
  unfold tabl
  exact List.map_congr_left fun i hi => h i (List.mem_range.mp hi)
theorem tabl_set {n j : Nat} (f : Nat → Int) (v : Int) : (tabl n f).set j v = tabl n (fun i => if i = j then v else f i) := by
  refine List.ext_getElem? fun i => ?_
  by_cases h : i < n
  · rw [tabl_get _ h]
    by_cases e : i = j
    · subst e
      rw [if_pos rfl, List.getElem?_set_self (by rw [tabl_len]; exact h)]
    · rw [if_neg e, List.getElem?_set_ne (fun z => e z.symm), tabl_get _ h]
  · rw [List.getElem?_eq_none (by rw [List.length_set, tabl_len]; omega), List.getElem?_eq_none (by rw [tabl_len]; omega)]
theorem tabl_const (n : Nat) (c : Int) : tabl n (fun _ => c) = List.replicate n c := by
  unfold tabl
  refine List.ext_getElem? fun i => ?_
  by_cases h : i < n
  · rw [List.getElem?_map, List.getElem?_eq_getElem (by rw [List.length_range]; exact h), List.getElem?_replicate, if_pos h]
    rfl
  · rw [List.getElem?_eq_none (by rw [List.length_map, List.length_range]; omega), List.getElem?_replicate, if_neg h]
theorem rep_flat (n : Nat) (c : Int) : (List.replicate n [V.int c]).flatten = (List.replicate n c).map V.int := by
  induction n with
  | zero => rfl
  | succ n ih =>
    rw [List.replicate_succ, List.flatten_cons, ih, List.replicate_succ, List.map_cons]
    rfl
theorem atI_int {ns : List Int} {i : Int} (h0 : 0 ≤ i) (h1 : i < ns.length) : atI (ns.map V.int) i = some (.int (ns.getD i.toNat 0)) := by
  refine at_of (j := i.toNat) (by omega) ?_
  have hl : i.toNat < ns.length := by omega
  rw [List.getElem?_map, List.getElem?_eq_getElem hl, List.getD_eq_getElem?_getD, List.getElem?_eq_getElem hl]
  rfl
theorem cut_all {xs : List V} (h : xs.length ≤ 63) : cutV xs none (some 63) = xs := by
  unfold cutV
  rw [HT.sIx_none, show HT.sIx xs.length xs.length (some 63) = min 63 xs.length from HT.sIx_nat xs.length xs.length 63]
  rw [Nat.min_eq_right h]
  show List.take (xs.length - 0) (xs.drop 0) = xs
  rw [Nat.sub_zero, List.drop_zero]
  exact List.take_length
end PA

set_option Elab.async false
set_option linter.all false
set_option maxRecDepth 100000
set_option maxHeartbeats 4000000
namespace PA
open PySem PySem.Spec PyProof.Rows L2 Evl
/-! ### comparisons in a chain of any length, as a test -/
structure PCh (X : Cx) (ops : List CmpOp) (es : List Expr) (t : V → TT) : Prop where
  run : ∀ (pos : Pos) (pins : List (Addr × Obj)) (s : Shared) (σ : L2.St) (H : Hp) (x : V) (v : Value) (Q : Bool → Hp → Prop), Inv X pins σ H s → RelV x v → t x σ H Q → wpAny (model X.prog X.w) X.A (testChain pos v ops (evalEach es X.env)) (TP X pins σ Q) X.xe s
def tLast (r : R2) (tb : TE) : V → TT := fun x σ H Q => tb σ H fun y H1 => r x y H1 fun z H2 => ∃ k, z = .bl k ∧ Q k H2
def tLink (r : R2) (tb : TE) (t : V → TT) : V → TT := fun x σ H Q => tb σ H fun y H1 => r x y H1 fun z H2 => ∃ k, z = .bl k ∧ if k = true then t y σ H2 Q else Q false H2
theorem pch_last {X : Cx} {op : CmpOp} {r : R2} {b : Expr} {tb : TE} (ho : OpR X (compareOp op) r) (hb : PE X b tb) : PCh X [op] [b] (tLast r tb) := by
  refine ⟨fun pos pins s σ H x v Q I rx h => ?_⟩
  refine test_last (thn (hb.run pins s σ H _ I h) fun u s1 ⟨y, H1, I1, r1, q1⟩ => thn (ho pins s1 σ H1 x y v u _ I1 rx r1 q1) fun d s2 ⟨z, H2, I2, r2, k, e, q2⟩ => ?_)
  subst e
  cases r2
  exact wpAny_truthy_bool ⟨H2, I2, q2⟩
theorem pch_link {X : Cx} {op op' : CmpOp} {ops : List CmpOp} {r : R2} {b b' : Expr} {bs : List Expr} {tb : TE} {t : V → TT} (ho : OpR X (compareOp op) r) (hb : PE X b tb) (h : PCh X (op' :: ops) (b' :: bs) t) : PCh X (op :: op' :: ops) (b :: b' :: bs) (tLink r tb t) := by
  refine ⟨fun pos pins s σ H x v Q I rx hw => ?_⟩
  refine test_link (r' := eval b' X.env) (rs := evalEach bs X.env) (thn (hb.run pins s σ H _ I hw) fun u s1 ⟨y, H1, I1, r1, q1⟩ => thn (ho pins s1 σ H1 x y v u _ I1 rx r1 q1) fun d s2 ⟨z, H2, I2, r2, k, e, q2⟩ => ?_)
  subst e
  cases r2
  refine wpAny_truthy_bool ?_
  cases k with
  | false => exact ite_ff ⟨H2, I2, q2⟩
  | true => exact ite_tt (h.run pos pins s2 σ H2 y u Q I2 r1 q2)
theorem pt_chainN {X : Cx} {a : Expr} {ta : TE} {op op' : CmpOp} {ops : List CmpOp} {b b' : Expr} {bs : List Expr} {t : V → TT} {pos : Pos} (ha : PE X a ta) (h : PCh X (op :: op' :: ops) (b :: b' :: bs) t) (hm : lastMarks (op :: op' :: ops) (b :: b' :: bs) = false := by with_unfolding_all rfl) :
    PT X (.Compare a (op :: op' :: ops) (b :: b' :: bs) pos) (fun σ H Q => ta σ H fun x H1 => t x σ H1 Q) := by
  refine ⟨fun pins s σ H Q I hw => ?_⟩
  exact isTrue_chain (thn (ha.run pins s σ H _ I hw) fun v s1 ⟨x, H1, I1, r1, q1⟩ => h.run pos pins s1 σ H1 x v Q I1 r1 q1) hm
section
variable {K : PySem.W.Frag} {σ : L2.St} {H H' : Hp} {ta tb te tx tc : TE} {t u : TT} {x y z v : V} {D : Ends} {tu tw tz : TS} {g : TG} {r r' : R2}
theorem et_chainN {t : V → TT} {b : Bool} (ha : Ev ta σ H x) (h : EvT (t x) σ H b) : EvT (fun σ H Q => ta σ H fun x H1 => t x σ H1 Q) σ H b := fun H1 e _ q => ha H1 e _ fun H2 e2 => h H2 (e.trans e2) _ fun H3 e3 => q H3 (e2.trans e3)
theorem et_last {b : Bool} (hb : Ev tb σ H y) (hr : RV r x y H (.bl b)) : EvT (tLast r tb x) σ H b := fun H1 e _ q => hb H1 e _ fun H2 e2 => hr H2 (e.trans e2) _ fun H3 e3 => ⟨b, rfl, q H3 (e2.trans e3)⟩
theorem et_link {t : V → TT} {k b : Bool} (hb : Ev tb σ H y) (hr : RV r x y H (.bl k)) (h : k = true → EvT (t y) σ H b) : EvT (tLink r tb t x) σ H (k && b) := fun H1 e Q q => hb H1 e _ fun H2 e2 => hr H2 (e.trans e2) _ fun H3 e3 => ⟨k, rfl, by
  cases k with
  | false =>
    rw [if_neg Bool.false_ne_true]
    exact q H3 (e2.trans e3)
  | true =>
    rw [if_pos rfl]
    exact h rfl H3 ((e.trans e2).trans e3) _ fun H4 e4 => q H4 ((e2.trans e3).trans e4)⟩
/-! ### comprehensions over a tuple, over a range from a number on -/
theorem el_lcT {a : Addr} {xs : List V} {tl : TE} {j : Nat} {vs : List Nat} (f : Nat → Bool) (v : Nat → V) (h : Ev tl σ H (.ref a)) (hx : SqT K H a xs) (hz : xs.length ≤ 40000) (hw : ∀ x, wipe ((wipe σ vs).set j (some x)) vs = wipe σ vs)
    (ht : ∀ (i : Nat) (x : V) H1, Ex H H1 → xs[i]? = some x → EvT t ((wipe σ vs).set j (some x)) H1 (f i)) (he : ∀ (i : Nat) (x : V) H1, Ex H H1 → xs[i]? = some x → f i = true → Ev te ((wipe σ vs).set j (some x)) H1 (v i)) :
    EvL (tLc (iTup K tl) (gName j) t te vs) σ H (given xs.length f v) := fun H0 e Q q => h H0 e _ fun H1 e1 => ⟨a, rfl, ⟨xs, ex_t (e.trans e1) hx⟩, fun Dl hD =>
  lc_tup (xs := xs) (Cw H1 f v Dl) ⟨hD, Ex.new hD, upd_same⟩ (fun i H' _ p => ex_t ((e.trans e1).trans p.2.1) hx) (fun i x H' hi p => ⟨hw x, cw_turn p (by have := (List.getElem?_eq_some_iff.mp hi).1; omega) (ht i x H1 (e.trans e1) hi) (fun hf => he i x H1 (e.trans e1) hi hf)⟩)
    (fun H' p => q Dl H' (fresh_back e1 p.1) (e1.trans p.2.1) p.2.2)⟩
theorem el_lcNU {xs : List V} {tl : TE} {j : Nat} {vs : List Nat} (f : Nat → Bool) (v : Nat → V) (h : EvU tl σ H xs) (hz : xs.length ≤ 40000) (hw : ∀ x, wipe ((wipe σ vs).set j (some x)) vs = wipe σ vs)
    (ht : ∀ (i : Nat) (x : V) H1, Ex H H1 → xs[i]? = some x → EvT t ((wipe σ vs).set j (some x)) H1 (f i)) (he : ∀ (i : Nat) (x : V) H1, Ex H H1 → xs[i]? = some x → f i = true → Ev te ((wipe σ vs).set j (some x)) H1 (v i)) :
    EvL (tLc (iTup K tl) (gName j) t te vs) σ H (given xs.length f v) := fun H0 e Q q => h H0 e _ fun a H1 ha e1 hx => ⟨a, rfl, ⟨xs, st_of hx⟩, fun Dl hD =>
  lc_tup (xs := xs) (Cw H1 f v Dl) ⟨hD, Ex.new hD, upd_same⟩ (fun i H' _ p => st_of (p.2.1 a _ hx)) (fun i x H' hi p => ⟨hw x, cw_turn p (by have := (List.getElem?_eq_some_iff.mp hi).1; omega) (ht i x H1 (e.trans e1) hi) (fun hf => he i x H1 (e.trans e1) hi hf)⟩)
    (fun H' p => q Dl H' (fresh_back e1 p.1) (e1.trans p.2.1) p.2.2)⟩
theorem el_lcR2 {ta : TA} {j : Nat} {vs : List Nat} {lo n : Int} (f : Nat → Bool) (v : Nat → V) (h : EvA ta σ H [.int lo, .int n]) (hn : 0 ≤ lo ∧ lo ≤ 40000 ∧ -40000 ≤ n ∧ n ≤ 40000) (hw : ∀ x, wipe ((wipe σ vs).set j (some x)) vs = wipe σ vs)
    (ht : ∀ (i : Nat) H1, Ex H H1 → lo + (i : Int) < n → EvT t ((wipe σ vs).set j (some (.int (lo + (i : Int))))) H1 (f i)) (he : ∀ (i : Nat) H1, Ex H H1 → lo + (i : Int) < n → f i = true → Ev te ((wipe σ vs).set j (some (.int (lo + (i : Int))))) H1 (v i)) :
    EvL (tLc (iRng2 ta) (gName j) t te vs) σ H (given (n - lo).toNat f v) := fun H0 e Q q => h H0 e _ fun H1 e1 => ⟨lo, n, rfl, ⟨by omega, by omega, by omega, by omega⟩, fun Dl hD =>
  lc_range (lo := lo) (n := (n - lo).toNat) (Cw H1 f v Dl) ⟨hD, Ex.new hD, upd_same⟩ (fun i H' hi p => ⟨hw _, cw_turn p (by omega) (ht i H1 (e.trans e1) (by omega)) (fun hf => he i H1 (e.trans e1) (by omega) hf)⟩) (fun H' p => q Dl H' (fresh_back e1 p.1) (e1.trans p.2.1) p.2.2)⟩
theorem ev_lenI {a : Addr} {ns : List Int} (h : Ev ta σ H (.ref a)) (hs : SqL K H a (ns.map V.int)) : Ev (tCB (rLenS K) (tCons ta tNil)) σ H (.int (ns.length : Int)) := ev_is (ev_len h hs) (by rw [List.length_map])
/-- all([..]) of a made list of truths -/
theorem ev_allN {n : Nat} {b : Nat → Bool} (h : EvL te σ H (given n (fun _ => true) (fun i => .bl (b i)))) : Ev (tCB (rAll K) (tCons te tNil)) σ H (.bl ((List.range n).all b)) :=
  ev_cbL h fun p H1 hp _ H2 e2 _ q => ⟨p, (List.range n).map b, rfl, by
    rw [given_all] at hp
    rw [List.map_map]
    exact ex_l e2 (sq_of hp), by
    rw [List.all_map]
    exact q H2 (Ex.refl H2)⟩
theorem ev_allT {n : Nat} (h : EvL te σ H (given n (fun _ => true) (fun _ => .bl true))) : Ev (tCB (rAll K) (tCons te tNil)) σ H (.bl true) := ev_is (ev_allN (b := fun _ => true) h) (by
  have : (List.range n).all (fun _ => true) = true := List.all_eq_true.mpr fun _ _ => rfl
  rw [this])
/-- sorted of whole numbers: whatever is the same list in order -/
theorem el_sorted {a : Addr} {ns ms : List Int} (h : Ev ta σ H (.ref a)) (hs : SqL K H a (ns.map V.int)) (hm : ∀ ns' : List Int, ns'.Perm ns → ns'.Pairwise (· ≤ ·) → ns' = ms) : EvL (tCB (rSortedI K) (tCons ta tNil)) σ H (ms.map V.int) := fun H1 e Q q =>
  h H1 e _ fun H2 e2 => ⟨a, ns, rfl, ex_l (e.trans e2) hs, fun ns' p hp hq hn => by
    have := hm ns' hp hq
    subst this
    exact q p _ (fresh_back e2 hn) (e2.trans (Ex.new hn)) upd_same⟩
theorem rgV_ints (a b : Int) : rgV a b = ((List.range (b - a).toNat).map fun (i : Nat) => a + (i : Int)).map V.int := by
  unfold rgV
  rw [List.map_map]
  rfl
theorem el_listRg {i j : Int} (ha : Ev ta σ H (.int i)) (hb : Ev tb σ H (.int j)) (h0 : 0 ≤ i) (h1 : i ≤ 100000) (h2 : 0 ≤ j) (h3 : j ≤ 100000) : EvL (tLstRg (tRg2 ta tb)) σ H (((List.range (j - i).toNat).map fun (k : Nat) => i + (k : Int)).map V.int) := fun H1 e Q q =>
  ha H1 e _ fun H2 e2 => hb H2 (e.trans e2) _ fun H3 e3 => ⟨i, j, rfl, rfl, RgOk.of_le h0 (by omega) (by omega) h2, fun p hp => by
    rw [rgV_ints]
    exact q p _ (fresh_back (e2.trans e3) hp) ((e2.trans e3).trans (Ex.new hp)) upd_same⟩
end
/-! ### two lists in order with the same numbers are one -/
theorem sorted_eq : ∀ {l m : List Int}, l.Perm m → l.Pairwise (· ≤ ·) → m.Pairwise (· ≤ ·) → l = m
  | [], m, p, _, _ => (List.Perm.nil_eq p)
  | a :: l, [], p, _, _ => by
    have := p.length_eq
    simp at this
  | a :: l, b :: m, p, hl, hm => by
    have ha := List.pairwise_cons.mp hl
    have hb := List.pairwise_cons.mp hm
    have h1 : a ≤ b := by
      rcases List.mem_cons.mp (p.mem_iff.mpr List.mem_cons_self) with e | e
      · rw [e]; exact Int.le_refl _
      · exact ha.1 b e
    have h2 : b ≤ a := by
      rcases List.mem_cons.mp (p.mem_iff.mp List.mem_cons_self) with e | e
      · rw [e]; exact Int.le_refl _
      · exact hb.1 a e
    have e : a = b := by omega
    subst e
    rw [sorted_eq (List.Perm.cons_inv p) ha.2 hb.2]
theorem range_sorted (a : Int) (n : Nat) : ((List.range n).map fun (k : Nat) => a + (k : Int)).Pairwise (· ≤ ·) := by
  rw [List.pairwise_map]
  refine List.Pairwise.imp (fun h => ?_) List.pairwise_lt_range
  omega
theorem range_nodup (a : Int) (n : Nat) : ((List.range n).map fun (k : Nat) => a + (k : Int)).Nodup := by
  unfold List.Nodup
  rw [List.pairwise_map]
  refine List.Pairwise.imp (fun h => ?_) List.pairwise_lt_range
  omega
theorem range_mem {a x : Int} {n : Nat} : x ∈ ((List.range n).map fun (k : Nat) => a + (k : Int)) ↔ a ≤ x ∧ x < a + n := by
  rw [List.mem_map]
  constructor
  · rintro ⟨k, hk, rfl⟩
    have := List.mem_range.mp hk
    omega
  · intro h
    exact ⟨(x - a).toNat, List.mem_range.mpr (by omega), by omega⟩
end PA

set_option maxHeartbeats 4000000
set_option Elab.async false
set_option linter.all false
namespace PA
/-! threes: the number to the last one, and all three -/
def bas (l n : Int) : Int := if n ≤ l then n else num l (n - l - 1)
def three (l n : Int) : List Int := [bas l n, l + fst l (bas l n) + 1, l + fst l (bas l n) + 1 + bas l n]
theorem bas_rng {l n : Int} (hl : Can l) (h1 : 1 ≤ n) (h2 : n ≤ 3 * l) : 1 ≤ bas l n ∧ bas l n ≤ l := by
  unfold bas
  split
  · exact ⟨h1, by assumption⟩
  · have a := at_num hl (show 0 ≤ n - l - 1 by omega) (show n - l - 1 < 2 * l by omega)
    exact a.1
theorem three_in {l n : Int} (hl : Can l) (h1 : 1 ≤ n) (h2 : n ≤ 3 * l) : n ∈ three l n := by
  by_cases h : n ≤ l
  · have e : bas l n = n := if_pos h
    unfold three
    rw [e]
    exact List.mem_cons_self
  · have e : bas l n = num l (n - l - 1) := if_neg h
    have a := at_num hl (show 0 ≤ n - l - 1 by omega) (show n - l - 1 < 2 * l by omega)
    unfold three
    rw [e]
    rcases a.2 with z | z
    · exact List.mem_cons_of_mem _ (List.mem_cons.mpr (.inl (by omega)))
    · exact List.mem_cons_of_mem _ (List.mem_cons_of_mem _ (List.mem_cons.mpr (.inl (by omega))))
theorem three_shape {l n : Int} (hl : Can l) (h1 : 1 ≤ n) (h2 : n ≤ 3 * l) : 1 ≤ bas l n ∧ bas l n ≤ l ∧ l < l + fst l (bas l n) + 1 ∧ l + fst l (bas l n) + 1 < l + fst l (bas l n) + 1 + bas l n ∧ l + fst l (bas l n) + 1 + bas l n ≤ 3 * l := by
  have b := bas_rng hl h1 h2
  have f := fst_rng hl b.1 b.2
  omega
theorem bas_of {l n x : Int} (hl : Can l) (h1 : 1 ≤ n) (h2 : n ≤ 3 * l) (h : x ∈ three l n) : bas l x = bas l n ∧ 1 ≤ x ∧ x ≤ 3 * l := by
  have s := three_shape hl h1 h2
  unfold three at h
  generalize bas l n = m at *
  rcases List.mem_cons.mp h with e | h
  · subst e
    exact ⟨if_pos s.2.1, by omega, by omega⟩
  rcases List.mem_cons.mp h with e | h
  · refine ⟨?_, by omega, by omega⟩
    unfold bas
    rw [if_neg (by omega)]
    exact num_at hl ⟨⟨s.1, s.2.1⟩, .inl (by omega)⟩
  rcases List.mem_cons.mp h with e | h
  · refine ⟨?_, by omega, by omega⟩
    unfold bas
    rw [if_neg (by omega)]
    exact num_at hl ⟨⟨s.1, s.2.1⟩, .inr (by omega)⟩
  · cases h
theorem three_same {l n x : Int} (hl : Can l) (h1 : 1 ≤ n) (h2 : n ≤ 3 * l) (h : x ∈ three l n) : three l x = three l n := by
  unfold three
  rw [(bas_of hl h1 h2 h).1]
def every (l : Int) (k : Nat) : List Int := (List.range k).flatMap fun (i : Nat) => three l ((i : Int) + 1)
theorem every_succ (l : Int) (k : Nat) : every l (k + 1) = every l k ++ three l ((k : Int) + 1) := by
  unfold every
  rw [List.range_succ, List.flatMap_append, List.flatMap_cons, List.flatMap_nil, List.append_nil]
theorem every_in {l : Int} {k : Nat} {x : Int} (h : x ∈ every l k) : ∃ i : Nat, i < k ∧ x ∈ three l ((i : Int) + 1) := by
  obtain ⟨i, hi, hx⟩ := List.mem_flatMap.mp h
  exact ⟨i, List.mem_range.mp hi, hx⟩
theorem every_len (l : Int) : ∀ k : Nat, (every l k).length = 3 * k
  | 0 => rfl
  | k + 1 => by
    rw [every_succ, List.length_append, every_len l k]
    show 3 * k + 3 = _
    omega
theorem bas_low {l n : Int} (h : n ≤ l) : bas l n = n := if_pos h
theorem three_nodup {l n : Int} (hl : Can l) (h1 : 1 ≤ n) (h2 : n ≤ 3 * l) : (three l n).Nodup := by
  have s := three_shape hl h1 h2
  unfold three
  generalize bas l n = m at *
  refine List.nodup_cons.mpr ⟨fun h => ?_, List.nodup_cons.mpr ⟨fun h => ?_, List.nodup_cons.mpr ⟨fun h => (nomatch h), List.nodup_nil⟩⟩⟩
  · rcases List.mem_cons.mp h with e | h
    · omega
    rcases List.mem_cons.mp h with e | h
    · omega
    · cases h
  · rcases List.mem_cons.mp h with e | h
    · omega
    · cases h
theorem every_nodup {l : Int} (hl : Can l) : ∀ k : Nat, (k : Int) ≤ l → (every l k).Nodup
  | 0, _ => List.nodup_nil
  | k + 1, hk => by
    rw [every_succ]
    refine List.nodup_append.mpr ⟨every_nodup hl k (by omega), three_nodup hl (by omega) (by omega), fun a ha b hb e => ?_⟩
    obtain ⟨i, hi, hx⟩ := every_in ha
    have b1 := (bas_of hl (by omega) (by omega) hx).1
    have b2 := (bas_of hl (by omega) (by omega) hb).1
    rw [bas_low (n := (i : Int) + 1) (by omega)] at b1
    rw [bas_low (n := (k : Int) + 1) (by omega)] at b2
    rw [e] at b1
    omega
theorem every_all {l : Int} (hl : Can l) (x : Int) : x ∈ every l l.toNat ↔ 1 ≤ x ∧ x ≤ 3 * l := by
  have h1 := hl.1
  constructor
  · intro h
    obtain ⟨i, hi, hx⟩ := every_in h
    exact (bas_of hl (by omega) (by omega) hx).2
  · intro h
    have b := bas_rng hl h.1 h.2
    refine List.mem_flatMap.mpr ⟨(bas l x - 1).toNat, List.mem_range.mpr (by omega), ?_⟩
    have e : (((bas l x - 1).toNat : Nat) : Int) + 1 = bas l x := by omega
    rw [e]
    have e2 : three l (bas l x) = three l x := by
      unfold three
      rw [bas_low b.2]
    rw [e2]
    exact three_in hl h.1 h.2
end PA

set_option Elab.async false
set_option linter.all false
set_option maxRecDepth 100000
set_option maxHeartbeats 4000000
namespace PA
open PySem PySem.Spec PyProof.Rows L2 Evl
/-! ### an own class without an __init__ of its own -/
structure New0 (K : PySem.W.Frag) (C : Addr) : Prop where
  makes : PySem.W.makesIn K C = true
  init : PySem.W.findIn K (.ref C) "__init__" = some (some (.builtin "object.__init__"))
  kp : PySem.W.keepIn K (.ref C) = true
theorem call_bare {prog : Program} {w : World} {A : Around} {K : PySem.W.Frag} {C : Addr} {R : Result → Shared → Prop} {s : Shared} (X : K.In s.heap) (N : New0 K C)
    (h : R (.ok (.ret (.ref (s.heap.objs.size + 1)))) { s with heap := (s.heap.push PySem.W.emptyDict).push (PySem.W.instObj C s.heap.objs.size) }) : codeAny (model prog w) A (.call (.ref C) ⟨[], []⟩) R s := by
  obtain ⟨hh, g, d, t, os⟩ := s
  have Y := PySem.W.makes_of (M := model prog w) X N.makes
  refine PySem.W.make_core Y (PySem.W.looks_findIn X N.init) (fun self => PySem.W.Looks.of_pure (PySem.W.oi_bind self)) (.inr ⟨rfl, rfl⟩) ?_
  have e2 : ((hh.push PySem.W.emptyDict).push (PySem.W.instObj C hh.objs.size)).get? (hh.objs.size + 1) = some (PySem.W.instObj C hh.objs.size) := by
    have := Heap.get?_push_size (hh.push PySem.W.emptyDict) (o := PySem.W.instObj C hh.objs.size) rfl
    rw [Heap.size_push] at this
    exact this
  have t1 : PySem.W.Looks (model prog w) ((hh.push PySem.W.emptyDict).push (PySem.W.instObj C hh.objs.size)) (typeOf (.ref (hh.objs.size + 1))) (.ref C) := (PySem.W.Looks.ld e2).andThen .now
  have t2 : PySem.W.Looks (model prog w) ((hh.push PySem.W.emptyDict).push (PySem.W.instObj C hh.objs.size)) (isInstance (.ref (hh.objs.size + 1)) (.type "object")) true := t1.andThen (Y.top.keeps fun b o e => Heap.get?_push_of_some _ (Heap.get?_push_of_some _ e))
  refine codeAny_call_builtin PySem.W.oi_plain PySem.W.entry_oi (@PySem.W.check_slot (model prog w) _ _ _ "object.__init__" "object" "__init__" (.ref (hh.objs.size + 1)) [] [] _ PySem.W.oi_kind PySem.W.oi_split t2 (PySem.W.oi_args (.ref (hh.objs.size + 1))) ?_)
  rw [PySem.W.oi_run]
  exact wpAny_pure (And.intro rfl h)
/-- C() -/
def tNew (C : Addr) : TE := fun _ H Q => ∀ x dx, H x = none → H dx = none → dx ≠ x → Q (.ref x) (upd (upd H dx (.own x)) x (.ins C dx []))
theorem pe_new0 {X : Cx} {C : Addr} {x : Str} {p pos : Pos} (N : New0 X.K C) (hg : Gl X x) (hm : X.mg x = some (.ref C)) (hdb : (x == ("__debug__" : Str)) = false := by decide) : PE X (.Call (.Name x p) [] [] pos) (tNew C) := by
  refine ⟨fun pins s σ H Q I h => ?_⟩
  refine wpAny_Call_Name_kw (ld_glob I hg hm ?_ hdb)
  refine PySem.W.callWith_K0 I.kIn N.kp (wpAny_call (call_bare I.kIn N ?_))
  exact ⟨V.ref (s.heap.objs.size + 1), _, Inv.made (C := C) I, rfl, h _ _ (I.hok.fresh (Nat.le_succ _)) (I.hok.fresh (Nat.le_refl _)) (Nat.ne_of_lt (Nat.lt_succ_self _))⟩
/-- either reading -/
theorem PE.or {X : Cx} {e : Expr} {t u : TE} (h : PE X e t) (h' : PE X e u) : PE X e (fun σ H Q => t σ H Q ∨ u σ H Q) := ⟨fun pins s σ H Q I hw => by
  rcases hw with hw | hw
  · exact h.run pins s σ H Q I hw
  · exact h'.run pins s σ H Q I hw⟩
/-! ### what isinstance asks of an instance -/
structure InsT (K : PySem.W.Frag) (C : Addr) : Prop where
  cl : Cls K C
  ha : PySem.W.findIn K (.ref C) "__class__" = some (some (.builtin "object.__class__"))
  hn : PySem.W.specialIn K (.builtin "object.__class__") "__get__" = some (some (.builtin "getset_descriptor.__get__"))
  htk : PySem.W.takesIn K (.builtin "object.__class__") = some true
  hm : PySem.W.mroIn K C (.type "object") = some true
theorem InsT.ty {K : PySem.W.Frag} {C : Addr} (h : InsT K C) {H : Hp} {a dx : Addr} {fs : List (Str × V)} (e : H a = some (.ins C dx fs)) : TyX K H (.ref a) (.ref C) := .base (.ins e h.cl h.ha h.hn h.htk h.hm)
section
variable {K : PySem.W.Frag} {σ : L2.St} {H H' : Hp} {ta tb te tx tc : TE} {t u : TT} {x y z v : V} {D : Ends} {tu tw tz : TS} {g : TG} {r r' : R2}
/-- a new instance of the class at C with these attributes -/
def EvI (te : TE) (σ : L2.St) (H : Hp) (C : Addr) (fs : List (Str × V)) : Prop := ∀ H1, Ex H H1 → ∀ Q : VK, (∀ p dx H2, H1 p = none → Ex H1 H2 → H2 p = some (.ins C dx fs) → Q (.ref p) H2) → te σ H1 Q
theorem ei_new {C : Addr} : EvI (tNew C) σ H C [] := fun H1 e Q q p dx hp hdx ne => q p dx _ hp (fun b o hb => by
  rw [upd_ne (ne_of_none hb hp), upd_ne (ne_of_none hb hdx)]
  exact hb) upd_same
/-- C(v), its __init__ storing one attribute -/
def sp_init1 (C : Addr) (f : Str) : Sp := fun vs H Q _ => ∃ (p dx : Addr) (v : V), vs = [.ref p, v] ∧ H p = some (.ins C dx []) ∧ Q .non (upd H p (.ins C dx [(f, v)]))
theorem ei_make {C : Addr} {f : Str} {t : TA} {E : XK} (h : EvA t σ H [v]) : EvI (tMake C (sp_init1 C f) [] E t) σ H C [(f, v)] := fun H1 e Q q => h H1 e _ fun H2 e2 p dx hp hdx ne =>
  ⟨p, dx, v, rfl, upd_same, rfl, q p dx _ (fresh_back e2 hp) (fun b o hb => by
    have hb2 := e2 _ _ hb
    rw [upd_ne (ne_of_none hb2 hp), upd_ne (ne_of_none hb2 hp), upd_ne (ne_of_none hb2 hdx)]
    exact hb2) upd_same⟩
theorem ev_methN {C : Addr} {fs : List (Str × V)} {m : Str} {sp : Sp} {E : XK} {t : TA} {vs : List V} (hi : EvI ta σ H C fs) (hl : fs.lookup m = none) (ha : EvA t σ H vs) (hs : ∀ p dx H1, Ex H H1 → H1 p = some (.ins C dx fs) → SpV sp (.ref p :: vs) H1 z) : Ev (tMeth C m sp [] E ta t) σ H z := fun H1 e Q q =>
  hi H1 e _ fun p dx H2 hp e2 h2 => ⟨p, dx, fs, rfl, h2, hl, ha H2 (e.trans e2) _ fun H3 e3 => by
    rw [List.append_nil]
    exact hs p dx H3 ((e.trans e2).trans e3) (e3 _ _ h2) H3 (Ex.refl H3) Q (fun H4 e4 => q H4 ((e2.trans e3).trans e4)) E⟩
theorem ev_methV {C p dx : Addr} {fs : List (Str × V)} {m : Str} {sp : Sp} {E : XK} {t : TA} {vs : List V} (hp : H p = some (.ins C dx fs)) (hv : Ev ta σ H (.ref p)) (hl : fs.lookup m = none) (ha : EvA t σ H vs) (hs : SpV sp (.ref p :: vs) H z) : Ev (tMeth C m sp [] E ta t) σ H z := fun H1 e Q q =>
  hv H1 e _ fun H2 e2 => ⟨p, dx, fs, rfl, (e.trans e2) _ _ hp, hl, ha H2 (e.trans e2) _ fun H3 e3 => by
    rw [List.append_nil]
    exact hs H3 ((e.trans e2).trans e3) Q (fun H4 e4 => q H4 ((e2.trans e3).trans e4)) E⟩
theorem ev_orL {ta tb : TE} (h : Ev ta σ H v) : Ev (fun σ H Q => ta σ H Q ∨ tb σ H Q) σ H v := fun H1 e Q q => .inl (h H1 e Q q)
theorem ev_orR {ta tb : TE} (h : Ev tb σ H v) : Ev (fun σ H Q => ta σ H Q ∨ tb σ H Q) σ H v := fun H1 e Q q => .inr (h H1 e Q q)
theorem ev_fld {C p dx : Addr} {fs : List (Str × V)} {f : Str} (hp : H p = some (.ins C dx fs)) (hv : Ev ta σ H (.ref p)) (c : Cls K C) (n : NoAttr K C f) (hl : fs.lookup f = some v) : Ev (tFld K ta f) σ H v := fun H1 e Q q =>
  hv H1 e _ fun H2 e2 => ⟨p, C, dx, fs, v, rfl, (e.trans e2) _ _ hp, c, n, hl, q H2 e2⟩
/-- a statement x = C(..) -/
theorem q_asgI {i : Nat} {C : Addr} {fs : List (Str × V)} (h : EvI te σ H C fs) (k : ∀ p dx H1, H p = none → Ex H H1 → H1 p = some (.ins C dx fs) → tz D (σ.set i (some (.ref p))) H1) : tSeq (tAsg te (gName i)) tz D σ H := h H (Ex.refl H) _ fun p dx H1 hp e h1 => k p dx H1 hp e h1
theorem s_retI {C : Addr} {fs : List (Str × V)} (h : EvI te σ H C fs) (k : ∀ p dx H1, H p = none → Ex H H1 → H1 p = some (.ins C dx fs) → D.rt (.ref p) H1) : tRet te D σ H := h H (Ex.refl H) _ k
/-- a def that hands back a new instance -/
def RetI (C : Addr) (fs : List (Str × V)) (H : Hp) (Q : VK) : Prop := ∀ p dx H2, H p = none → Ex H H2 → H2 p = some (.ins C dx fs) → Q (.ref p) H2
theorem RetI.go {C : Addr} {fs : List (Str × V)} {Q : VK} (k : RetI C fs H Q) (e : Ex H H') {p dx : Addr} {H2 : Hp} (hp : H' p = none) (e2 : Ex H' H2) (h : H2 p = some (.ins C dx fs)) : Q (.ref p) H2 := k p dx H2 (fresh_back e hp) (e.trans e2) h
def SpI (sp : Sp) (vs : List V) (H : Hp) (C : Addr) (fs : List (Str × V)) : Prop := ∀ H1, Ex H H1 → ∀ Q : VK, (∀ p dx H2, H1 p = none → Ex H1 H2 → H2 p = some (.ins C dx fs) → Q (.ref p) H2) → ∀ E : XK, sp vs H1 Q E
theorem ei_call {sp : Sp} {dvs vs : List V} {E : XK} {ta : TA} {C : Addr} {fs : List (Str × V)} (h : EvA ta σ H vs) (hs : SpI sp (vs ++ dvs) H C fs) : EvI (tCall sp dvs E ta) σ H C fs := fun H1 e Q q =>
  h H1 e _ fun H2 e2 => hs H2 (e.trans e2) Q (fun p dx H3 hp e3 h3 => q p dx H3 (fresh_back e2 hp) (e2.trans e3) h3) E
/-- a comprehension over enumerate(a list) -/
theorem el_lcE {a : Addr} {xs : List V} {tl : TE} {j1 j2 : Nat} {vs : List Nat} (f : Nat → Bool) (v : Nat → V) (h : Ev tl σ H (.ref a)) (hx : SqL K H a xs) (hz : xs.length ≤ 40000) (hw : ∀ x y, wipe (((wipe σ vs).set j1 (some x)).set j2 (some y)) vs = wipe σ vs)
    (ht : ∀ (i : Nat) (x : V) H1, Ex H H1 → xs[i]? = some x → EvT t (((wipe σ vs).set j1 (some (.int (i : Nat)))).set j2 (some x)) H1 (f i)) (he : ∀ (i : Nat) (x : V) H1, Ex H H1 → xs[i]? = some x → f i = true → Ev te (((wipe σ vs).set j1 (some (.int (i : Nat)))).set j2 (some x)) H1 (v i)) :
    EvL (tLc (iEnum K (tCons tl tNil)) (gTup K 2 (gCons (gName j1) (gCons (gName j2) gNil))) t te vs) σ H (given xs.length f v) := fun H0 e Q q => h H0 e _ fun H1 e1 => ⟨a, xs, rfl, ex_l (e.trans e1) hx, fun Dl hD =>
  ⟨fun i m H' => m = xs.length - i ∧ i ≤ xs.length ∧ Cw H1 f v Dl i H', ⟨xs.length, by simp, Nat.zero_le _, hD, Ex.new hD, upd_same⟩, fun i m H' hW => by
    obtain ⟨em, hi, p⟩ := hW
    have hs : SqL K H' a xs := ex_l ((e.trans e1).trans p.2.1) hx
    by_cases hlt : i < xs.length
    · refine .inr ⟨⟨xs, xs[i], hs, List.getElem?_eq_getElem hlt⟩, Cw H1 f v Dl (i + 1), fun H'' p' => ⟨xs.length - (i + 1), by omega, rfl, hlt, p'⟩, fun y H'' hy => ?_⟩
      obtain ⟨T, x, rfl, hT, rfl, hg⟩ := hy
      have gx := hg xs hs
      have nD : Dl ≠ T := ne_of_none p.2.2 hT
      have p2 : Cw H1 f v Dl i (upd H' T (.tup [.int (i : Nat), x])) := ⟨p.1, p.2.1.trans (Ex.new hT), by rw [upd_ne nD]; exact p.2.2⟩
      exact ⟨T, _, rfl, st_of upd_same, rfl, _, _, rfl, _, _, rfl, rfl, hw _ _, cw_turn p2 (by omega) (ht i x H1 (e.trans e1) gx) fun hf => he i x H1 (e.trans e1) gx hf⟩
    · have ei : i = xs.length := by omega
      subst ei
      exact .inl ⟨⟨xs, hs, Nat.le_refl _⟩, q Dl H' (fresh_back e1 p.1) (e1.trans p.2.1) p.2.2⟩⟩⟩
end
end PA

set_option Elab.async false
set_option linter.all false
set_option maxRecDepth 100000
set_option maxHeartbeats 4000000
namespace PA
open PySem PySem.Spec PyProof.Rows L2 Evl
/-- a list of whole numbers that may be read, not too long -/
def IntL (K : PySem.W.Frag) (v : V) (H : Hp) : Prop := ∃ (a : Addr) (ns : List Int), v = .ref a ∧ SqL K H a (ns.map V.int) ∧ ns.length ≤ 1000
def Stab (P : V → Hp → Prop) : Prop := ∀ v H H', Ex H H' → P v H → P v H'
theorem intL_stab {K : PySem.W.Frag} : Stab (IntL K) := fun v H H' e h => by
  obtain ⟨a, ns, rfl, hs, hl⟩ := h
  exact ⟨a, ns, rfl, ex_l e hs, hl⟩
section
variable {K : PySem.W.Frag} {σ : L2.St} {H H' : Hp} {ta tb te tx tc : TE} {t u : TT} {x y z v : V} {D : Ends} {tu tw tz : TS} {g : TG} {r r' : R2} {P : V → Hp → Prop}
/-- a value of which P holds -/
def EvQ (te : TE) (σ : L2.St) (H : Hp) (P : V → Hp → Prop) : Prop := ∀ H1, Ex H H1 → ∀ Q : VK, (∀ v H2, Ex H1 H2 → P v H2 → Q v H2) → te σ H1 Q
/-- n values of each of which P holds -/
def EvAP (ta : TA) (σ : L2.St) (H : Hp) (P : V → Hp → Prop) (n : Nat) : Prop := ∀ H1, Ex H H1 → ∀ Q : List V → Hp → Prop, (∀ vs H2, Ex H1 H2 → vs.length = n → (∀ v ∈ vs, P v H2) → Q vs H2) → ta σ H1 Q
theorem eap_nil : EvAP tNil σ H P 0 := fun H1 _ _ q => q [] H1 (Ex.refl H1) rfl fun _ h => nomatch h
theorem eap_cons {tr : TA} {n : Nat} (st : Stab P) (h : EvQ ta σ H P) (hr : EvAP tr σ H P n) : EvAP (tCons ta tr) σ H P (n + 1) := fun H1 e _ q =>
  h H1 e _ fun x H2 e2 hx => hr H2 (e.trans e2) _ fun vs H3 e3 hl hv => q (x :: vs) H3 (e2.trans e3) (by rw [List.length_cons, hl]) fun v hm => by
    rcases List.mem_cons.mp hm with e | e
    · subst e
      exact st _ _ _ e3 hx
    · exact hv v e
theorem eq_val (h : Ev te σ H v) (hp : ∀ H1, Ex H H1 → P v H1) : EvQ te σ H P := fun H1 e _ q => h H1 e _ fun H2 e2 => q v H2 e2 (hp H2 (e.trans e2))
theorem eq_new {ns : List Int} (h : EvL te σ H (ns.map V.int)) (hl : ns.length ≤ 1000) : EvQ te σ H (IntL K) := fun H1 e _ q => h H1 e _ fun p H2 hp e2 h2 => q _ H2 e2 ⟨p, ns, rfl, sq_of h2, hl⟩
theorem eq_old {a : Addr} {ns : List Int} (h : Ev te σ H (.ref a)) (hs : SqL K H a (ns.map V.int)) (hl : ns.length ≤ 1000) : EvQ te σ H (IntL K) := eq_val h fun H1 e => ⟨a, ns, rfl, ex_l e hs, hl⟩
theorem eq_imp {P' : V → Hp → Prop} (h : EvQ te σ H P) (hi : ∀ v H1, P v H1 → P' v H1) : EvQ te σ H P' := fun H1 e _ q => h H1 e _ fun v H2 e2 hv => q v H2 e2 (hi v H2 hv)
/-- over a list in a slot -/
theorem s_forV {a : Addr} {xs : List V} {tl : TE} {j : Nat} (h : Ev tl σ H (.ref a)) (hx : SqL K H a xs) (S : L2.St → Prop) (h0 : S σ)
    (hs : ∀ x σ' H' H0, Ex H H' → Ex H0 H' → x ∈ xs → S σ' → tu { D with nx := fun σ2 H2 => S σ2 ∧ Ex H0 H2, ct := fun σ2 H2 => S σ2 ∧ Ex H0 H2, bk := D.nx } (σ'.set j (some x)) H') (hd : ∀ σ' H', Ex H H' → S σ' → D.nx σ' H') : tFor (iList K tl) (gName j) tu D σ H :=
  h H (Ex.refl H) _ fun H1 e => ⟨a, rfl, ⟨xs, ex_l e hx⟩, for_list (K := K) (xs := xs) (fun _ σ' H' => S σ' ∧ Ex H1 H') ⟨h0, Ex.refl _⟩ (fun i σ' H' _ w => ex_l (e.trans w.2) hx) (fun i x σ' H' hi w => hs x σ' H' H1 (e.trans w.2) w.2 (List.mem_of_getElem? hi) w.1) fun σ' H' w => hd σ' H' (e.trans w.2) w.1⟩
theorem q_forV {a : Addr} {xs : List V} {tl : TE} {j : Nat} (h : Ev tl σ H (.ref a)) (hx : SqL K H a xs) (S : L2.St → Prop) (h0 : S σ)
    (hs : ∀ x σ' H' H0, Ex H H' → Ex H0 H' → x ∈ xs → S σ' → tu { D with nx := fun σ2 H2 => S σ2 ∧ Ex H0 H2, ct := fun σ2 H2 => S σ2 ∧ Ex H0 H2, bk := tz D } (σ'.set j (some x)) H') (hd : ∀ σ' H', Ex H H' → S σ' → tz D σ' H') : tSeq (tFor (iList K tl) (gName j) tu) tz D σ H := s_forV (D := { D with nx := tz D }) h hx S h0 hs hd
/-- over a new list -/
theorem s_forN {xs : List V} {tl : TE} {j : Nat} (h : EvL tl σ H xs) (S : L2.St → Prop) (h0 : S σ)
    (hs : ∀ x σ' H' H0, Ex H H' → Ex H0 H' → x ∈ xs → S σ' → tu { D with nx := fun σ2 H2 => S σ2 ∧ Ex H0 H2, ct := fun σ2 H2 => S σ2 ∧ Ex H0 H2, bk := D.nx } (σ'.set j (some x)) H') (hd : ∀ σ' H', Ex H H' → S σ' → D.nx σ' H') : tFor (iList K tl) (gName j) tu D σ H :=
  h H (Ex.refl H) _ fun a H1 ha e hx => ⟨a, rfl, ⟨xs, sq_of hx⟩, for_list (K := K) (xs := xs) (fun _ σ' H' => S σ' ∧ Ex H1 H') ⟨h0, Ex.refl _⟩ (fun i σ' H' _ w => sq_of (w.2 _ _ hx)) (fun i x σ' H' hi w => hs x σ' H' H1 (e.trans w.2) w.2 (List.mem_of_getElem? hi) w.1) fun σ' H' w => hd σ' H' (e.trans w.2) w.1⟩
/-- over a new list of values with P -/
theorem q_forP {ta : TA} {j n : Nat} (st : Stab P) (h : EvAP ta σ H P n) (hn : n ≤ 100000) (S : L2.St → Prop) (h0 : S σ)
    (hs : ∀ x σ' H' H0, Ex H H' → Ex H0 H' → P x H' → S σ' → tu { D with nx := fun σ2 H2 => S σ2 ∧ Ex H0 H2, ct := fun σ2 H2 => S σ2 ∧ Ex H0 H2, bk := tz D } (σ'.set j (some x)) H') (hd : ∀ σ' H', Ex H H' → S σ' → tz D σ' H') : tSeq (tFor (iList K (tLst ta)) (gName j) tu) tz D σ H :=
  h H (Ex.refl H) _ fun vs H1 e1 hl hv => ⟨sz_of (by omega), fun p hp => ⟨p, rfl, ⟨vs, sq_of upd_same⟩, for_list (K := K) (xs := vs) (D := { D with nx := tz D }) (fun _ σ' H' => S σ' ∧ Ex (upd H1 p (.lst vs)) H') ⟨h0, Ex.refl _⟩ (fun i σ' H' _ w => sq_of (w.2 _ _ upd_same)) (fun i x σ' H' hi w =>
    hs x σ' H' _ (e1.trans ((Ex.new hp).trans w.2)) w.2 (st _ _ _ ((Ex.new hp).trans w.2) (hv x (List.mem_of_getElem? hi))) w.1) fun σ' H' w => hd σ' H' (e1.trans ((Ex.new hp).trans w.2)) w.1⟩⟩
theorem q_asgQ {i : Nat} (h : EvQ te σ H P) (k : ∀ v H1, Ex H H1 → P v H1 → tz D (σ.set i (some v)) H1) : tSeq (tAsg te (gName i)) tz D σ H := h H (Ex.refl H) _ fun v H1 e hv => k v H1 e hv
theorem eq_if {b : Bool} (h : EvT t σ H b) (h1 : b = true → EvQ ta σ H P) (h2 : b = false → EvQ tb σ H P) : EvQ (tIf t ta tb) σ H P := fun H1 e Q q => h H1 e _ fun H2 e2 => by
  cases b with
  | true => exact h1 rfl H2 (e.trans e2) _ fun v H3 e3 hv => q v H3 (e2.trans e3) hv
  | false => exact h2 rfl H2 (e.trans e2) _ fun v H3 e3 hv => q v H3 (e2.trans e3) hv
/-- a method called with a new list -/
theorem ev_methL {C : Addr} {fs : List (Str × V)} {m : Str} {sp : Sp} {E : XK} {xs : List V} (hi : EvI ta σ H C fs) (hl : fs.lookup m = none) (ha : EvL te σ H xs) (hs : ∀ p dx q H1, Ex H H1 → H1 p = some (.ins C dx fs) → H1 q = some (.lst xs) → SpV sp [.ref p, .ref q] H1 z) : Ev (tMeth C m sp [] E ta (tCons te tNil)) σ H z := fun H1 e Q q =>
  hi H1 e _ fun p dx H2 hp e2 h2 => ⟨p, dx, fs, rfl, h2, hl, ha H2 (e.trans e2) _ fun r H3 hr e3 h3 => hs p dx r H3 ((e.trans e2).trans e3) (e3 _ _ h2) h3 H3 (Ex.refl H3) Q (fun H4 e4 => q H4 ((e2.trans e3).trans e4)) E⟩
theorem el_listRgN {i j : Int} (ha : Ev ta σ H (.int i)) (hb : Ev tb σ H (.int j)) (h0 : -1000 ≤ i) (h1 : i ≤ 100000) (h2 : -1000 ≤ j) (h3 : j ≤ 100000) : EvL (tLstRg (tRg2 ta tb)) σ H (((List.range (j - i).toNat).map fun (k : Nat) => i + (k : Int)).map V.int) := fun H1 e Q q =>
  ha H1 e _ fun H2 e2 => hb H2 (e.trans e2) _ fun H3 e3 => ⟨i, j, rfl, rfl, ⟨by omega, by omega, by omega, by omega, by omega⟩, fun p hp => by
    rw [rgV_ints]
    exact q p _ (fresh_back (e2.trans e3) hp) ((e2.trans e3).trans (Ex.new hp)) upd_same⟩
theorem rv_isB {a b : Bool} : RV (fun x y H Q => ∃ a b, x = V.bl a ∧ y = V.bl b ∧ Q (.bl (decide (a = b))) H) (.bl a) (.bl b) H (.bl (decide (a = b))) := fun H1 _ _ q => ⟨a, b, rfl, rfl, q H1 (Ex.refl H1)⟩
theorem rv_isntB {a b : Bool} : RV (fun x y H Q => ∃ a b, x = V.bl a ∧ y = V.bl b ∧ Q (.bl (!decide (a = b))) H) (.bl a) (.bl b) H (.bl (!decide (a = b))) := fun H1 _ _ q => ⟨a, b, rfl, rfl, q H1 (Ex.refl H1)⟩
/-- over range(n) -/
theorem q_forR1S {ta : TA} {j : Nat} {n : Int} (h : EvA ta σ H [.int n]) (hn : 0 ≤ n ∧ n ≤ 100000) (S : L2.St → Prop) (h0 : S σ)
    (hs : ∀ (i : Nat) σ' H' H0, (i : Int) < n → Ex H H' → Ex H0 H' → S σ' → tu { D with nx := fun σ2 H2 => S σ2 ∧ Ex H0 H2, ct := fun σ2 H2 => S σ2 ∧ Ex H0 H2, bk := tz D } (σ'.set j (some (.int (i : Int)))) H') (hd : ∀ σ' H', Ex H H' → S σ' → tz D σ' H') : tSeq (tFor (iRng1 ta) (gName j) tu) tz D σ H :=
  q_forR1 h hn (fun _ σ' H' => S σ' ∧ Ex H H') (fun H1 e => ⟨h0, e⟩) (fun i σ' H' hi w => hs i σ' H' H hi w.2 w.2 w.1) fun σ' H' w => hd σ' H' w.2 w.1
/-- isinstance of what has P -/
theorem ev_isiQ {c : V} {cu : Value} {b : Bool} (h : EvQ ta σ H P) (hP : ∀ v H1, P v H1 → ∃ ty, TyX K H1 v ty ∧ PySem.W.kitOne K ty cu = some b) (hc : ClsV c cu) (hb : ∀ H1, Ev tb σ H1 c) (st : Stab P) : Ev (tCB (rIsi K) (tCons ta (tCons tb tNil))) σ H (.bl b) := fun H1 e Q q =>
  h H1 e _ fun x H2 e2 hx => hb H2 H2 (Ex.refl _) _ fun H3 e3 => by
    obtain ⟨ty, ht, hk⟩ := hP x H3 (st _ _ _ e3 hx)
    exact ⟨x, c, ty, cu, b, rfl, hc, ht, hk, q H3 (e2.trans e3)⟩
theorem ev_fldQ {f : Str} (h : EvQ ta σ H P) (hP : ∀ v H1, P v H1 → ∃ p C dx fs, v = .ref p ∧ H1 p = some (.ins C dx fs) ∧ Cls K C ∧ NoAttr K C f ∧ fs.lookup f = some z) : Ev (tFld K ta f) σ H z := fun H1 e Q q =>
  h H1 e _ fun x H2 e2 hx => by
    obtain ⟨p, C, dx, fs, rfl, hp, c, n, l⟩ := hP x H2 hx
    exact ⟨p, C, dx, fs, z, rfl, hp, c, n, l, q H2 e2⟩
def SpQ (sp : Sp) (vs : List V) (H : Hp) (P : V → Hp → Prop) : Prop := ∀ H1, Ex H H1 → ∀ Q : VK, (∀ v H2, Ex H1 H2 → P v H2 → Q v H2) → ∀ E : XK, sp vs H1 Q E
theorem eq_call {sp : Sp} {dvs vs : List V} {E : XK} {ta : TA} (h : EvA ta σ H vs) (hs : SpQ sp (vs ++ dvs) H P) : EvQ (tCall sp dvs E ta) σ H P := fun H1 e Q q => h H1 e _ fun H2 e2 => hs H2 (e.trans e2) Q (fun v H3 e3 hv => q v H3 (e2.trans e3) hv) E
theorem eq_callL {sp : Sp} {xs : List V} {E : XK} (h : EvL te σ H xs) (hs : ∀ p H1, Ex H H1 → H1 p = some (.lst xs) → SpQ sp [.ref p] H1 P) : EvQ (tCall sp [] E (tCons te tNil)) σ H P := fun H1 e Q q =>
  h H1 e _ fun p H2 hp e2 h2 => hs p H2 (e.trans e2) h2 H2 (Ex.refl _) Q (fun v H3 e3 hv => q v H3 (e2.trans e3) hv) E
theorem el_callL {sp : Sp} {xs ys : List V} {E : XK} (h : EvL te σ H xs) (hs : ∀ p H1, Ex H H1 → H1 p = some (.lst xs) → SpL sp [.ref p] H1 ys) : EvL (tCall sp [] E (tCons te tNil)) σ H ys := fun H1 e Q q =>
  h H1 e _ fun p H2 hp e2 h2 => hs p H2 (e.trans e2) h2 H2 (Ex.refl _) Q (fun r H3 hr e3 h3 => q r H3 (fresh_back e2 hr) (e2.trans e3) h3) E
theorem ev_call2L {sp : Sp} {xs : List V} {E : XK} (ha : Ev ta σ H x) (h : EvL te σ H xs) (hs : ∀ p H1, Ex H H1 → H1 p = some (.lst xs) → SpV sp [x, .ref p] H1 z) : Ev (tCall sp [] E (tCons ta (tCons te tNil))) σ H z := fun H1 e Q q =>
  ha H1 e _ fun H2 e2 => h H2 (e.trans e2) _ fun p H3 hp e3 h3 => hs p H3 ((e.trans e2).trans e3) h3 H3 (Ex.refl _) Q (fun H4 e4 => q H4 ((e2.trans e3).trans e4)) E
theorem eq_sorted {a : Addr} {ns : List Int} (h : Ev ta σ H (.ref a)) (hs : SqL K H a (ns.map V.int)) (hP : ∀ (ns' : List Int) p H1, ns'.Perm ns → H1 p = some (.lst (ns'.map V.int)) → P (.ref p) H1) : EvQ (tCB (rSortedI K) (tCons ta tNil)) σ H P := fun H1 e Q q =>
  h H1 e _ fun H2 e2 => ⟨a, ns, rfl, ex_l (e.trans e2) hs, fun ns' p hp hq hn => q _ _ (e2.trans (Ex.new hn)) (hP ns' p _ hp upd_same)⟩
theorem el_rev {a : Addr} {xs : List V} (h : Ev te σ H (.ref a)) (hs : SqL K H a xs) : EvL (tRevL K te) σ H xs.reverse := fun H1 e Q q =>
  h H1 e _ fun H2 e2 => ⟨a, xs, rfl, ex_l (e.trans e2) hs, fun p hp => q p _ (fresh_back e2 hp) (e2.trans (Ex.new hp)) upd_same⟩
/-- a[i], a[j] = v, w -/
theorem q_swap {l : Addr} {xs : List V} {i j : Nat} {ti tj : TE} {w : V} (hl : H l = some (.lst xs)) (h : EvU te σ H [v, w]) (ha : ∀ H1, Ev ta σ H1 (.ref l)) (hb : ∀ H1, Ev tb σ H1 (.ref l)) (hi : ∀ H1, Ev ti σ H1 (.int (i : Int))) (hj : ∀ H1, Ev tj σ H1 (.int (j : Int))) (li : i < xs.length) (lj : j < xs.length)
    (k : ∀ H1, (∀ b o, b ≠ l → H b = some o → H1 b = some o) → H1 l = some (.lst ((xs.set i v).set j w)) → tz D σ H1) : tSeq (tAsg te (gTup K 2 (gCons (gSub ta ti rSetL) (gCons (gSub tb tj rSetL) gNil)))) tz D σ H :=
  h H (Ex.refl H) _ fun p H1 hp e1 h1 => ⟨p, _, rfl, st_of h1, rfl, _, _, rfl, ha H1 H1 (Ex.refl _) _ fun H2 e2 => hi H2 H2 (Ex.refl _) _ fun H3 e3 =>
    ⟨l, xs, (i : Int), i, rfl, rfl, ((e1.trans e2).trans e3) _ _ hl, ixN_nat li, _, _, rfl, hb _ _ (Ex.refl _) _ fun H4 e4 => hj H4 H4 (Ex.refl _) _ fun H5 e5 =>
      ⟨l, xs.set i v, (j : Int), j, rfl, rfl, (e4.trans e5) _ _ upd_same, ixN_nat (by rw [List.length_set]; exact lj), rfl, k _ (fun b o nb hb => by
        rw [upd_ne nb]
        refine (e4.trans e5) _ _ ?_
        rw [upd_ne nb]
        exact ((e1.trans e2).trans e3) _ _ hb) upd_same⟩⟩⟩
theorem q_par {i j : Nat} {ta : TA} {w : V} (h : EvA ta σ H [v, w]) (k : ∀ H1, Ex H H1 → tz D ((σ.set i (some v)).set j (some w)) H1) : tSeq (tPar i j ta) tz D σ H := h H (Ex.refl H) _ fun H1 e => ⟨v, w, rfl, k H1 e⟩
/-- stores at l alone, l new -/
theorem ex_but {H0 H1 H2 : Hp} {l : Addr} (e : Ex H0 H1) (h : H0 l = none) (k : ∀ b o, b ≠ l → H1 b = some o → H2 b = some o) : Ex H0 H2 := fun b o hb => k b o (ne_of_none hb h) (e _ _ hb)
end
theorem cut_take (xs : List V) (n : Nat) : cutV xs none (some (n : Int)) = xs.take n := by
  unfold cutV
  rw [HT.sIx_none, show HT.sIx xs.length xs.length (some (n : Int)) = min n xs.length from HT.sIx_nat xs.length xs.length n]
  show List.take (min n xs.length - 0) (xs.drop 0) = _
  rw [Nat.sub_zero, List.drop_zero]
  by_cases h : n ≤ xs.length
  · rw [Nat.min_eq_left h]
  · rw [Nat.min_eq_right (by omega), List.take_length, List.take_of_length_le (by omega)]
theorem cut_init (xs : List V) (x : V) : cutV (xs ++ [x]) none (some (-1)) = xs := by
  unfold cutV
  rw [HT.sIx_none]
  have e : HT.sIx (xs ++ [x]).length (xs ++ [x]).length (some (-1)) = xs.length := by
    unfold HT.sIx
    simp
    try omega
  rw [e]
  show List.take (xs.length - 0) ((xs ++ [x]).drop 0) = xs
  rw [Nat.sub_zero, List.drop_zero]
  simp
theorem tyx_sq {K : PySem.W.Frag} {H : Hp} {a : Addr} {xs : List V} (h : SqL K H a xs) : TyX K H (.ref a) (.type "list") := by
  rcases h with (h | ⟨o, h⟩) | ⟨o, its, n, h, hc, _⟩
  · exact .base (.lst h)
  · exact .base (.frz h)
  · exact .kList h hc
theorem cut_drop (xs : List V) (n : Nat) : cutV xs (some (n : Int)) none = xs.drop n := by
  unfold cutV
  rw [HT.sIx_none, show HT.sIx xs.length 0 (some (n : Int)) = min n xs.length from HT.sIx_nat xs.length 0 n]
  by_cases h : n ≤ xs.length
  · rw [Nat.min_eq_left h, List.take_of_length_le (by rw [List.length_drop]; omega)]
  · rw [Nat.min_eq_right (by omega), List.drop_length, List.drop_of_length_le (by omega)]
    exact List.take_nil
end PA

set_option maxHeartbeats 4000000
set_option Elab.async false
set_option linter.all false
namespace PA
/-! where a number stands in a list, and whether it stands right -/
def posL (row : List Int) (n : Int) : List Nat := (List.range row.length).filter fun i => decide (row.getD i 0 = n)
def rgt (row : List Int) (n : Int) : Bool := match posL row n with
  | [a, b] => decide ((b : Int) - (a : Int) = n)
  | _ => false
/-- each number from 1 to half of the length -/
def good (row : List Int) : Bool := (List.range (row.length / 2)).all fun i => rgt row (1 + (i : Int))
theorem mem_pos {row : List Int} {n : Int} {i : Nat} : i ∈ posL row n ↔ i < row.length ∧ row.getD i 0 = n := by
  unfold posL
  rw [List.mem_filter, List.mem_range, decide_eq_true_eq]
theorem pos_sorted (row : List Int) (n : Int) : (posL row n).Pairwise (· < ·) := by
  unfold posL
  exact List.Pairwise.filter _ List.pairwise_lt_range
theorem rng_get (row : List Int) : (List.range row.length).map (fun i => row.getD i 0) = row := by
  refine List.ext_getElem? fun i => ?_
  rw [List.getElem?_map]
  by_cases h : i < row.length
  · rw [List.getElem?_eq_getElem (by rw [List.length_range]; exact h), List.getElem?_eq_getElem h, List.getElem_range]
    show some (row.getD i 0) = _
    rw [List.getD_eq_getElem?_getD]
    simp [h]
  · rw [List.getElem?_eq_none (by rw [List.length_range]; omega), List.getElem?_eq_none (by omega)]
    rfl
theorem count_pos (row : List Int) (n : Int) : row.count n = (posL row n).length := by
  have e : row.count n = ((List.range row.length).map (fun i => row.getD i 0)).count n := by rw [rng_get]
  rw [e, List.count_eq_countP, List.countP_map, List.countP_eq_length_filter]
  unfold posL
  congr 1
theorem pair_of {row : List Int} {n : Int} (h : (posL row n).length = 2) : ∃ a b : Nat, posL row n = [a, b] ∧ a < b := by
  have s := pos_sorted row n
  match e : posL row n, h with
  | [a, b], _ =>
    rw [e] at s
    exact ⟨a, b, rfl, (List.pairwise_cons.mp s).1 b List.mem_cons_self⟩
theorem rgt_no {row : List Int} {n : Int} (h : (posL row n).length ≠ 2) : rgt row n = false := by
  unfold rgt
  split
  · rename_i e
    rw [e] at h
    exact absurd rfl h
  · rfl
theorem rgt_two {row : List Int} {n : Int} {a b : Nat} (h : posL row n = [a, b]) : rgt row n = decide ((b : Int) - (a : Int) = n) := by
  unfold rgt
  rw [h]
/-- the second place by the first one -/
theorem rgt_at {row : List Int} {n : Int} {a b : Nat} (h : posL row n = [a, b]) (hab : a < b) (h1 : 1 ≤ n) : (decide ((a : Int) + n < row.length) && decide (row.getD ((a : Int) + n).toNat 0 = n)) = rgt row n := by
  rw [rgt_two h]
  have hb : b ∈ posL row n := by rw [h]; exact List.mem_cons_of_mem _ List.mem_cons_self
  obtain ⟨hb1, hb2⟩ := mem_pos.mp hb
  by_cases e : (b : Int) - (a : Int) = n
  · have e2 : ((a : Int) + n).toNat = b := by omega
    rw [e2, decide_eq_true (show (a : Int) + n < row.length by omega), decide_eq_true hb2, decide_eq_true e]
    rfl
  · rw [decide_eq_false e]
    by_cases z : (a : Int) + n < row.length
    · have nz : ¬ row.getD ((a : Int) + n).toNat 0 = n := fun y => by
        have m : ((a : Int) + n).toNat ∈ posL row n := mem_pos.mpr ⟨by omega, y⟩
        rw [h] at m
        rcases List.mem_cons.mp m with q | m
        · omega
        rcases List.mem_cons.mp m with q | m
        · omega
        · cases m
      rw [decide_eq_false nz, Bool.and_false]
    · rw [decide_eq_false z, Bool.false_and]
theorem pos_first {row : List Int} {n : Int} {a b : Nat} (h : posL row n = [a, b]) (hab : a < b) : row[a]? = some n ∧ ∀ m z, m < a → row[m]? = some z → z ≠ n := by
  have ha : a ∈ posL row n := by rw [h]; exact List.mem_cons_self
  obtain ⟨h1, h2⟩ := mem_pos.mp ha
  refine ⟨?_, fun m z hm hz e => ?_⟩
  · rw [List.getElem?_eq_getElem h1]
    rw [List.getD_eq_getElem?_getD, List.getElem?_eq_getElem h1] at h2
    exact congrArg some h2
  · have mm : m ∈ posL row n := mem_pos.mpr ⟨by omega, by rw [List.getD_eq_getElem?_getD, hz]; exact e⟩
    rw [h] at mm
    rcases List.mem_cons.mp mm with q | mm
    · omega
    rcases List.mem_cons.mp mm with q | mm
    · omega
    · cases mm
/-- the told row -/
def rowL (l : Int) : List Int := (List.range (2 * l).toNat).map fun (j : Nat) => num l j
theorem rowL_len (l : Int) : (rowL l).length = (2 * l).toNat := by
  unfold rowL
  rw [List.length_map, List.length_range]
theorem rowL_get {l : Int} {j : Nat} (h : j < (2 * l).toNat) : (rowL l).getD j 0 = num l j := by
  unfold rowL
  rw [List.getD_eq_getElem?_getD, List.getElem?_map, List.getElem?_eq_getElem (by rw [List.length_range]; exact h), List.getElem_range]
  rfl
theorem rowL_pos {l n : Int} (hl : Can l) (h1 : 1 ≤ n) (h2 : n ≤ l) : posL (rowL l) n = [(fst l n).toNat, (fst l n + n).toNat] := by
  have fr := fst_rng hl h1 h2
  have mem : ∀ i, i ∈ posL (rowL l) n ↔ i = (fst l n).toNat ∨ i = (fst l n + n).toNat := fun i => by
    rw [mem_pos, rowL_len]
    constructor
    · rintro ⟨a, b⟩
      rw [rowL_get a] at b
      have q := at_num hl (show 0 ≤ (i : Int) by omega) (show (i : Int) < 2 * l by omega)
      rw [b] at q
      rcases q.2 with z | z <;> omega
    · rintro (e | e)
      · have hi : i < (2 * l).toNat := by omega
        refine ⟨hi, ?_⟩
        rw [rowL_get hi]
        exact num_at hl ⟨⟨h1, h2⟩, .inl (by omega)⟩
      · have hi : i < (2 * l).toNat := by omega
        refine ⟨hi, ?_⟩
        rw [rowL_get hi]
        exact num_at hl ⟨⟨h1, h2⟩, .inr (by omega)⟩
  have s := pos_sorted (rowL l) n
  have nd : (posL (rowL l) n).Nodup := s.imp fun h => Nat.ne_of_lt h
  have ab : (fst l n).toNat < (fst l n + n).toNat := by omega
  generalize posL (rowL l) n = xs at *
  generalize (fst l n).toNat = a at *
  generalize (fst l n + n).toNat = b at *
  have nd2 : ([a, b] : List Nat).Nodup := by
    refine List.nodup_cons.mpr ⟨fun h => ?_, List.nodup_cons.mpr ⟨fun h => (nomatch h), List.nodup_nil⟩⟩
    rcases List.mem_cons.mp h with q | h
    · omega
    · cases h
  have p : xs.Perm [a, b] := (List.perm_ext_iff_of_nodup nd nd2).mpr fun i => by
    rw [mem i]
    simp
  have len := p.length_eq
  match xs, len with
  | [c, d], _ =>
    have cd := (List.pairwise_cons.mp s).1 d List.mem_cons_self
    have hc := (mem c).mp List.mem_cons_self
    have hd := (mem d).mp (List.mem_cons_of_mem _ List.mem_cons_self)
    have e1 : c = a := by omega
    have e2 : d = b := by omega
    rw [e1, e2]
theorem rowL_rgt {l n : Int} (hl : Can l) (h1 : 1 ≤ n) (h2 : n ≤ l) : rgt (rowL l) n = true := by
  have fr := fst_rng hl h1 h2
  rw [rgt_two (rowL_pos hl h1 h2)]
  refine decide_eq_true ?_
  omega
theorem good_iff {row : List Int} : good row = true ↔ ∀ n : Int, 1 ≤ n → n ≤ ((row.length / 2 : Nat) : Int) → rgt row n = true := by
  unfold good
  rw [List.all_eq_true]
  constructor
  · intro h n h1 h2
    have := h (n - 1).toNat (List.mem_range.mpr (by omega))
    rw [show 1 + (((n - 1).toNat : Nat) : Int) = n by omega] at this
    exact this
  · intro h i hi
    exact h _ (by omega) (by have := List.mem_range.mp hi; omega)
theorem rowL_good {l : Int} (hl : Can l) : good (rowL l) = true := good_iff.mpr fun n h1 h2 => rowL_rgt hl h1 (by rw [rowL_len] at h2; omega)
/-! from the end on -/
theorem pos_two {row : List Int} {n : Int} {a b : Nat} (ab : a < b) (mem : ∀ i, i ∈ posL row n ↔ i = a ∨ i = b) : posL row n = [a, b] := by
  have s := pos_sorted row n
  have nd : (posL row n).Nodup := s.imp fun h => Nat.ne_of_lt h
  generalize posL row n = xs at *
  have nd2 : ([a, b] : List Nat).Nodup := by
    refine List.nodup_cons.mpr ⟨fun h => ?_, List.nodup_cons.mpr ⟨fun h => (nomatch h), List.nodup_nil⟩⟩
    rcases List.mem_cons.mp h with q | h
    · omega
    · cases h
  have p : xs.Perm [a, b] := (List.perm_ext_iff_of_nodup nd nd2).mpr fun i => by
    rw [mem i]
    simp
  have len := p.length_eq
  match xs, len with
  | [c, d], _ =>
    have cd := (List.pairwise_cons.mp s).1 d List.mem_cons_self
    have hc := (mem c).mp List.mem_cons_self
    have hd := (mem d).mp (List.mem_cons_of_mem _ List.mem_cons_self)
    have e1 : c = a := by omega
    have e2 : d = b := by omega
    rw [e1, e2]
theorem rev_get {row : List Int} {i : Nat} (h : i < row.length) : row.reverse.getD i 0 = row.getD (row.length - 1 - i) 0 := by
  rw [List.getD_eq_getElem?_getD, List.getD_eq_getElem?_getD, List.getElem?_reverse h]
theorem rgt_rev_of {row : List Int} {n : Int} (h : rgt row n = true) : rgt row.reverse n = true := by
  by_cases hc : (posL row n).length = 2
  · obtain ⟨a, b, hp, hab⟩ := pair_of hc
    rw [rgt_two hp] at h
    have h := of_decide_eq_true h
    have hb : b ∈ posL row n := by rw [hp]; exact List.mem_cons_of_mem _ List.mem_cons_self
    have lb := (mem_pos.mp hb).1
    have q : posL row.reverse n = [row.length - 1 - b, row.length - 1 - a] := by
      refine pos_two (by omega) fun i => ?_
      rw [mem_pos, List.length_reverse]
      constructor
      · rintro ⟨h1, h2⟩
        rw [rev_get h1] at h2
        have m : row.length - 1 - i ∈ posL row n := mem_pos.mpr ⟨by omega, h2⟩
        rw [hp] at m
        rcases List.mem_cons.mp m with z | m
        · exact .inr (by omega)
        rcases List.mem_cons.mp m with z | m
        · exact .inl (by omega)
        · cases m
      · intro z
        have hi : i < row.length := by omega
        refine ⟨hi, ?_⟩
        rw [rev_get hi]
        have m : row.length - 1 - i ∈ posL row n := by
          rw [hp]
          rcases z with z | z
          · exact List.mem_cons_of_mem _ (List.mem_cons.mpr (.inl (by omega)))
          · exact List.mem_cons.mpr (.inl (by omega))
        exact (mem_pos.mp m).2
    rw [rgt_two q]
    refine decide_eq_true ?_
    omega
  · rw [rgt_no hc] at h
    cases h
theorem rgt_rev (row : List Int) (n : Int) : rgt row.reverse n = rgt row n := by
  cases h : rgt row n with
  | true => exact rgt_rev_of h
  | false =>
    cases h2 : rgt row.reverse n with
    | false => rfl
    | true =>
      have := rgt_rev_of h2
      rw [List.reverse_reverse, h] at this
      cases this
theorem good_rev (row : List Int) : good row.reverse = good row := by
  unfold good
  rw [List.length_reverse]
  congr 1
  funext i
  exact rgt_rev row _
/-- the first number that doesn't stand right -/
def offN (row : List Int) : Int := 1 + (((List.range (row.length / 2)).findIdx fun (i : Nat) => !rgt row (1 + (i : Int)) : Nat) : Int)
theorem offN_at {row : List Int} {i : Nat} (hi : i < row.length / 2) (h : rgt row (1 + (i : Int)) = false) (hb : ∀ j : Nat, j < i → rgt row (1 + (j : Int)) = true) : offN row = 1 + (i : Int) ∧ good row = false := by
  constructor
  · unfold offN
    have e : (List.range (row.length / 2)).findIdx (fun (i : Nat) => !rgt row (1 + (i : Int))) = i := by
      rw [List.findIdx_eq (by rw [List.length_range]; exact hi)]
      refine ⟨by rw [List.getElem_range, h]; rfl, fun j hj => ?_⟩
      rw [List.getElem_range, hb j hj]
      rfl
    rw [e]
  · unfold good
    exact List.all_eq_false.mpr ⟨i, List.mem_range.mpr hi, by rw [h]; decide⟩
theorem offN_bad {row : List Int} (h : good row = false) : 1 ≤ offN row ∧ offN row ≤ ((row.length / 2 : Nat) : Int) ∧ rgt row (offN row) = false := by
  unfold good at h
  obtain ⟨i, hi, hr⟩ := List.all_eq_false.mp h
  have lt : (List.range (row.length / 2)).findIdx (fun (i : Nat) => !rgt row (1 + (i : Int))) < (List.range (row.length / 2)).length := List.findIdx_lt_length_of_exists ⟨i, hi, by simpa using hr⟩
  have g := List.findIdx_getElem (w := lt)
  rw [List.getElem_range] at g
  rw [List.length_range] at lt
  unfold offN
  exact ⟨by omega, by omega, by simpa using g⟩
end PA

set_option Elab.async false
set_option linter.all false
set_option maxRecDepth 100000
set_option maxHeartbeats 4000000
namespace PA
open PySem PySem.Spec PyProof.Rows L2 Evl
/-! ### isinstance of the error that a suite holds, of whatever own class -/
def rIsG (K : PySem.W.Frag) (cls : Value) (d : Option Addr) (a : Addr) : List V → Hp → VK → Prop := fun xs H Q => ∃ D : Addr, cls = .ref D ∧ d = none ∧ ExcC K D ∧ rIsE K D a xs H Q
theorem call_isG {X : Cx} {a : Addr} {cls : Value} {d : Option Addr} {oe : Obj} {pn : List (Addr × Obj)} (hz : Zc cls d oe) (hf : ∃ vs, oe.data = .fields vs) : CallR (X.suite a ((a, oe) :: pn)) (.builtin "isinstance") (rIsG X.K cls d a) := by
  intro pins s σ H xs us Q I r h
  obtain ⟨D, rfl, rfl, C, h⟩ := h
  exact call_isE C hz hf pins s σ H xs us Q I r h
section
variable {K : PySem.W.Frag} {σ : L2.St} {H H' : Hp} {ta tb te tx tc : TE} {t u : TT} {x y z v : V} {D : Ends} {tu tw tz : TS} {g : TG} {r r' : R2} {P : V → Hp → Prop}
theorem ev_isG {C a : Addr} {c : V} {cv : Value} {b : Bool} (hC : ExcC K C) (ha : Ev ta σ H (.ref a)) (hb : Ev tb σ H c) (hc : ∀ u, RelV c u → u = cv) (hk : PySem.W.kitOne K (.ref C) cv = some b) : Ev (tCB (rIsG K (.ref C) none a) (tCons ta (tCons tb tNil))) σ H (.bl b) :=
  ev_cb (ea_cons ha (ea_cons hb ea_nil)) fun H1 _ _ q => ⟨C, rfl, rfl, hC, c, cv, b, rfl, hc, hk, q H1 (Ex.refl H1)⟩
/-! ### a call that raises -/
theorem x_call {sp : Sp} {dvs vs : List V} {E : XK} {ta : TA} {Q : VK} (h : EvA ta σ H vs) (hs : ∀ H1, Ex H H1 → sp (vs ++ dvs) H1 Q E) : tCall sp dvs E ta σ H Q := h H (Ex.refl H) _ fun H1 e => hs H1 e
theorem x_callS {sp : Sp} {vs : List V} {E : L2.St → XK} {ta : TA} {Q : VK} (h : EvA ta σ H vs) (hs : ∀ H1, Ex H H1 → sp vs H1 Q (E σ)) : tCallS sp E ta σ H Q := h H (Ex.refl H) _ fun H1 e => hs H1 e
theorem x_callS1 {sp : Sp} {E : L2.St → XK} {Q : VK} (h : EvQ ta σ H P) (hs : ∀ v H1, Ex H H1 → P v H1 → sp [v] H1 Q (E σ)) : tCallS sp E (tCons ta tNil) σ H Q := h H (Ex.refl H) _ fun v H1 e hv => hs v H1 e hv
theorem x_callS2 {sp : Sp} {E : L2.St → XK} {Q : VK} (ha : Ev ta σ H x) (h : EvQ tb σ H P) (hs : ∀ v H1, Ex H H1 → P v H1 → sp [x, v] H1 Q (E σ)) : tCallS sp E (tCons ta (tCons tb tNil)) σ H Q := ha H (Ex.refl H) _ fun H1 e => h H1 e _ fun v H2 e2 hv => hs v H2 (e.trans e2) hv
theorem x_if {b : Bool} {Q : VK} (h : EvT t σ H b) (h1 : b = true → ∀ H1, Ex H H1 → ta σ H1 Q) (h2 : b = false → ∀ H1, Ex H H1 → tb σ H1 Q) : tIf t ta tb σ H Q := h H (Ex.refl H) _ fun H1 e => by
  cases b with
  | true => exact h1 rfl H1 e
  | false => exact h2 rfl H1 e
/-! ### displays of values of many kinds: of the i-th one P i holds -/
def EvAI (ta : TA) (σ : L2.St) (H : Hp) (P : Nat → V → Hp → Prop) (n : Nat) : Prop := ∀ H1, Ex H H1 → ∀ Q : List V → Hp → Prop, (∀ vs H2, Ex H1 H2 → vs.length = n → (∀ i v, vs[i]? = some v → P i v H2) → Q vs H2) → ta σ H1 Q
theorem eai_nil {P : Nat → V → Hp → Prop} : EvAI tNil σ H P 0 := fun H1 _ _ q => q [] H1 (Ex.refl H1) rfl fun _ _ h => nomatch h
theorem eai_cons {P : Nat → V → Hp → Prop} {tr : TA} {n : Nat} (st : Stab (P 0)) (h : EvQ ta σ H (P 0)) (hr : EvAI tr σ H (fun i => P (i + 1)) n) : EvAI (tCons ta tr) σ H P (n + 1) := fun H1 e _ q =>
  h H1 e _ fun x H2 e2 hx => hr H2 (e.trans e2) _ fun vs H3 e3 hl hv => q (x :: vs) H3 (e2.trans e3) (by rw [List.length_cons, hl]) fun i v hi => by
    cases i with
    | zero =>
      obtain rfl : x = v := Option.some.inj hi
      exact st _ _ _ e3 hx
    | succ i => exact hv i v hi
/-- a new list, of the i-th item of which P i holds -/
def EvLI (te : TE) (σ : L2.St) (H : Hp) (P : Nat → V → Hp → Prop) (n : Nat) : Prop := ∀ H1, Ex H H1 → ∀ Q : VK, (∀ vs p H2, H1 p = none → Ex H1 H2 → H2 p = some (.lst vs) → vs.length = n → (∀ i v, vs[i]? = some v → P i v H2) → Q (.ref p) H2) → te σ H1 Q
theorem eli_lst {P : Nat → V → Hp → Prop} {ta : TA} {n : Nat} (st : ∀ i, Stab (P i)) (h : EvAI ta σ H P n) (hn : n ≤ 100000) : EvLI (tLst ta) σ H P n := fun H1 e Q q =>
  h H1 e _ fun vs H2 e2 hl hv => ⟨sz_of (by omega), fun p hp => q vs p _ (fresh_back e2 hp) (e2.trans (Ex.new hp)) upd_same hl fun i v hi => st i _ _ _ (Ex.new hp) (hv i v hi)⟩
theorem q_asgLI {P : Nat → V → Hp → Prop} {n i : Nat} (h : EvLI te σ H P n) (k : ∀ vs p H1, H p = none → Ex H H1 → H1 p = some (.lst vs) → vs.length = n → (∀ i v, vs[i]? = some v → P i v H1) → tz D (σ.set i (some (.ref p))) H1) : tSeq (tAsg te (gName i)) tz D σ H := h H (Ex.refl H) _ k
theorem eq_lst {P' : V → Hp → Prop} {xs : List V} (h : EvL te σ H xs) (hp : ∀ p H1, H1 p = some (.lst xs) → P' (.ref p) H1) : EvQ te σ H P' := fun H1 e _ q => h H1 e _ fun p H2 _ e2 h2 => q _ H2 e2 (hp p H2 h2)
theorem eq_tup {P' : V → Hp → Prop} {xs : List V} (h : EvU te σ H xs) (hp : ∀ p H1, H1 p = some (.tup xs) → P' (.ref p) H1) : EvQ te σ H P' := fun H1 e _ q => h H1 e _ fun p H2 _ e2 h2 => q _ H2 e2 (hp p H2 h2)
theorem eq_dnew {P' : V → Hp → Prop} (hp : ∀ p H1, H1 p = some (.dK []) → P' (.ref p) H1) : EvQ tDNewK σ H P' := fun H1 e _ q p hn => q _ _ (Ex.new hn) (hp p _ upd_same)
/-- an item of a new list -/
theorem eq_ix {P : Nat → V → Hp → Prop} {P' : V → Hp → Prop} {n : Nat} {j : Int} (st : ∀ i, Stab (P i)) (h : EvLI te σ H P n) (hj : ∀ H1, Ev tb σ H1 (.int j)) (h0 : 0 ≤ j) (h1 : j < n) (hp : ∀ v H1, P j.toNat v H1 → P' v H1) : EvQ (tOp (rIxL K) te tb) σ H P' := fun H1 e Q q =>
  h H1 e _ fun vs p H2 _ e2 h2 hl hv => hj H2 H2 (Ex.refl _) _ fun H3 e3 => by
    have hlt : j.toNat < vs.length := by omega
    refine ⟨p, vs, j, vs[j.toNat], rfl, rfl, sq_of (e3 _ _ h2), at_of (j := j.toNat) (by omega) (List.getElem?_eq_getElem hlt), q _ H3 (e2.trans e3) (hp _ _ (st _ _ _ _ e3 (hv _ _ (List.getElem?_eq_getElem hlt))))⟩
/-- an item of a list in a slot -/
theorem eq_ixV {P' : V → Hp → Prop} {a : Addr} {vs : List V} {j : Int} (ha : Ev te σ H (.ref a)) (hs : SqL K H a vs) (hj : ∀ H1, Ev tb σ H1 (.int j)) (h0 : 0 ≤ j) (h1 : j < vs.length) (hp : ∀ v, vs[j.toNat]? = some v → ∀ H1, Ex H H1 → P' v H1) : EvQ (tOp (rIxL K) te tb) σ H P' := fun H1 e Q q =>
  ha H1 e _ fun H2 e2 => hj H2 H2 (Ex.refl _) _ fun H3 e3 => by
    have hlt : j.toNat < vs.length := by omega
    have e13 := (e.trans e2).trans e3
    exact ⟨a, vs, j, vs[j.toNat], rfl, rfl, ex_l e13 hs, at_of (j := j.toNat) (by omega) (List.getElem?_eq_getElem hlt), q _ H3 (e2.trans e3) (hp _ (List.getElem?_eq_getElem hlt) H3 e13)⟩
/-- a list, new or not, of the i-th item of which P i holds -/
def EvLJ (te : TE) (σ : L2.St) (H : Hp) (P : Nat → V → Hp → Prop) (n : Nat) : Prop := ∀ H1, Ex H H1 → ∀ Q : VK, (∀ vs p H2, Ex H1 H2 → H2 p = some (.lst vs) → vs.length = n → (∀ i v, vs[i]? = some v → P i v H2) → Q (.ref p) H2) → te σ H1 Q
theorem elj_new {P : Nat → V → Hp → Prop} {n : Nat} (h : EvLI te σ H P n) : EvLJ te σ H P n := fun H1 e Q q => h H1 e Q fun vs p H2 _ e2 h2 hl hv => q vs p H2 e2 h2 hl hv
theorem elj_old {P : Nat → V → Hp → Prop} {a : Addr} {vs : List V} (st : ∀ i, Stab (P i)) (ha : Ev te σ H (.ref a)) (hs : H a = some (.lst vs)) (hv : ∀ i v, vs[i]? = some v → P i v H) : EvLJ te σ H P vs.length := fun H1 e Q q =>
  ha H1 e _ fun H2 e2 => q vs a H2 e2 ((e.trans e2) _ _ hs) rfl fun i v hi => st _ _ _ _ (e.trans e2) (hv i v hi)
theorem eli_cat {P P' P2 : Nat → V → Hp → Prop} {m n : Nat} (st : ∀ i, Stab (P i)) (st' : ∀ i, Stab (P' i)) (ha : EvLJ ta σ H P m) (hb : EvLJ tb σ H P' n) (hn : m + n ≤ 100000) (h1 : ∀ i v H1, i < m → P i v H1 → P2 i v H1) (h2 : ∀ i v H1, P' i v H1 → P2 (m + i) v H1) : EvLI (tOp rCat ta tb) σ H P2 (m + n) := fun H1 e Q q =>
  ha H1 e _ fun vs p1 H2 e2 hp1 hl1 hv => hb H2 (e.trans e2) _ fun ws p H3 e3 h3 hl hw => ⟨p1, p, vs, ws, rfl, rfl, e3 _ _ hp1, h3, sz_of (by omega), fun r hr =>
    q (vs ++ ws) r _ (fresh_back (e2.trans e3) hr) ((e2.trans e3).trans (Ex.new hr)) upd_same (by rw [List.length_append, hl, hl1]) fun i v hi => by
      by_cases hlt : i < vs.length
      · rw [List.getElem?_append_left hlt] at hi
        exact h1 _ _ _ (by omega) (st _ _ _ _ (e3.trans (Ex.new hr)) (hv i v hi))
      · rw [List.getElem?_append_right (by omega)] at hi
        have z : P2 (m + (i - vs.length)) v (upd H3 r (.lst (vs ++ ws))) := h2 _ _ _ (st' _ _ _ _ (Ex.new hr) (hw _ _ hi))
        rwa [show m + (i - vs.length) = i by omega] at z⟩
/-- the first k items, the items from k on -/
theorem eli_take {P : Nat → V → Hp → Prop} {vs : List V} {k : Nat} {tlo thi : TO} (st : ∀ i, Stab (P i)) (h : EvL (tSl (rSlL K) te tlo thi) σ H (vs.take k)) (hk : k ≤ vs.length) (hv : ∀ i v, vs[i]? = some v → P i v H) : EvLI (tSl (rSlL K) te tlo thi) σ H P k := fun H1 e Q q =>
  h H1 e _ fun p H2 hp e2 h2 => q _ p H2 hp e2 h2 (by rw [List.length_take]; omega) fun i v hi => by
    rw [List.getElem?_take] at hi
    split at hi
    · exact st _ _ _ _ (e.trans e2) (hv i v hi)
    · cases hi
theorem eli_drop {P : Nat → V → Hp → Prop} {vs : List V} {k : Nat} {tlo thi : TO} (st : ∀ i, Stab (P i)) (h : EvL (tSl (rSlL K) te tlo thi) σ H (vs.drop k)) (hk : k ≤ vs.length) (hv : ∀ i v, vs[i]? = some v → P i v H) : EvLI (tSl (rSlL K) te tlo thi) σ H (fun i => P (k + i)) (vs.length - k) := fun H1 e Q q =>
  h H1 e _ fun p H2 hp e2 h2 => q _ p H2 hp e2 h2 (by rw [List.length_drop]) fun i v hi => by
    rw [List.getElem?_drop] at hi
    exact st _ _ _ _ (e.trans e2) (hv _ v hi)
/-- a[j] = what has P -/
theorem q_setQ {l : Addr} {xs : List V} {j : Nat} {P : V → Hp → Prop} (hl : H l = some (.lst xs)) (h : EvQ te σ H P) (ho : ∀ H1, Ex H H1 → Ev ta σ H1 (.ref l)) (hi : ∀ H1, Ex H H1 → Ev tb σ H1 (.int (j : Int))) (hj : j < xs.length) (k : ∀ v H0 H1, Ex H H0 → Ex H0 H1 → P v H0 → tz D σ (upd H1 l (.lst (xs.set j v)))) :
    tSeq (tAsg te (gSub ta tb rSetL)) tz D σ H := h H (Ex.refl H) _ fun v H1 e1 hv => ho H1 e1 _ (Ex.refl _) _ fun H2 e2 => hi H2 (e1.trans e2) _ (Ex.refl _) _ fun H3 e3 =>
  ⟨l, xs, (j : Int), j, rfl, rfl, ((e1.trans e2).trans e3) l _ hl, ixN_nat hj, k v H1 H3 e1 (e2.trans e3) hv⟩
theorem ei_if {b : Bool} {C : Addr} {fs : List (Str × V)} (h : EvT t σ H b) (h1 : b = true → EvI ta σ H C fs) (h2 : b = false → EvI tb σ H C fs) : EvI (tIf t ta tb) σ H C fs := fun H1 e Q q => h H1 e _ fun H2 e2 => by
  have k : ∀ te, EvI te σ H C fs → te σ H2 Q := fun te ht => ht H2 (e.trans e2) _ fun p dx H3 hp e3 h3 => q p dx H3 (fresh_back e2 hp) (e2.trans e3) h3
  cases b with
  | true => exact k _ (h1 rfl)
  | false => exact k _ (h2 rfl)
end
/-! ### lists of truths compared -/
theorem eqvAll_bools : ∀ ns ms : List Bool, PyData.eqvAll (ns.map PyData.bool) (ms.map PyData.bool) = decide (ns = ms)
  | [], [] => by simp [PyData.eqvAll]
  | [], _ :: _ => by simp [PyData.eqvAll]
  | _ :: _, [] => by simp [PyData.eqvAll]
  | n :: ns, m :: ms => by
    rw [List.map_cons, List.map_cons]
    show (PyData.eqv (.bool n) (.bool m) && PyData.eqvAll _ _) = _
    rw [eqvAll_bools ns ms]
    cases n <;> cases m <;> simp [PyData.eqv]
theorem canAll_bools : ∀ ns : List Bool, PyData.canLayAll0 (ns.map PyData.bool) = true
  | [] => rfl
  | _ :: r => by
    rw [List.map_cons]
    show (PyData.canLay0 (.bool _) && PyData.canLayAll0 _) = true
    rw [canAll_bools r]
    rfl
theorem depAll_bools : ∀ ns : List Bool, PyData.depthAll (ns.map PyData.bool) = 0
  | [] => rfl
  | _ :: r => by
    rw [List.map_cons]
    show max (PyData.depth (.bool _)) (PyData.depthAll _) = 0
    rw [depAll_bools r]
    rfl
theorem shp_bools (ns : List Bool) : SeqAt.shaped (.list (ns.map PyData.bool)) = true := by
  show (PyData.canLayAll0 _ && decide (PyData.depthAll _ + 1 ≤ 64)) = true
  rw [canAll_bools, depAll_bools]
  rfl
theorem dpAll_bools {K : PySem.W.Frag} {H : Hp} : ∀ ns : List Bool, DpAll K H (ns.map V.bl) (ns.map PyData.bool)
  | [] => .nil
  | n :: r => .cons (.bl n) (dpAll_bools r)
theorem rv_neB {K : PySem.W.Frag} {H : Hp} {a b : Addr} {ns ms : List Bool} (ha : SqL K H a (ns.map V.bl)) (hb : SqL K H b (ms.map V.bl)) : RV (rNeD K) (.ref a) (.ref b) H (.bl (!decide (ns = ms))) := fun H1 e Q q =>
  ⟨_, _, .lst (ex_l e ha) (dpAll_bools ns), .lst (ex_l e hb) (dpAll_bools ms), shp_bools _, shp_bools _, by
    rw [show PyData.eqv (.list (ns.map PyData.bool)) (.list (ms.map PyData.bool)) = decide (ns = ms) from eqvAll_bools ns ms]
    exact q H1 (Ex.refl H1)⟩
end PA

set_option Elab.async false
set_option linter.all false
set_option maxRecDepth 100000
set_option maxHeartbeats 4000000
namespace PA
open PySem PySem.Spec PyProof.Rows L2 Evl
/-! ### errors whose context is None: the words of HandS.WordsExc for L2N -/
theorem passLN {X : Cx} : Passes (L2N.CX X.prog X.w) X E0 := fun _ _ _ _ _ _ _ h => by
  obtain ⟨_, _, _, _, _, _, _, _, _, _, _, _, z⟩ := h
  exact z.elim
theorem takes0N {X : Cx} : L2N.Takes X (fun _ _ _ _ => False) := fun _ _ x => by
  obtain ⟨_, _, _, _, _, _, _, _, _, _, _, _, _, _, _, _, z⟩ := x
  exact z.elim
theorem okXN {P : Program} {w : World} {K : PySem.W.Frag} {mg : Str → Option Value} {base : Heap} {x qual : Str} {st : Stmt} {f : Addr} {fd : FuncData} {N ps : List Str} {k : Nat} {sp : Sp} (F : Fun K x qual st f fd) (S : FnScope N ps (defScope st)) (len : ∀ vs H Q E, sp vs H Q E → vs.length = ps.length)
    (hbody : ∀ (cdv : Value) (A : Around) (outer : List Env) (s : Shared) (H : Hp) (vs : List V) (Q : VK) (E : XK), Room k (A.deeper (envOfC qual (defScope st) s.heap.objs.size f cdv)) → sp vs H Q E →
      ∃ t, PSs (cxOf (L2N.CX P w) P w K mg base N qual (defScope st) f cdv A outer s H E) (defBody st) t ∧ t { nx := fun _ H' => Q .non H', rt := Q } (start N vs) H) : FnOk P w K mg base (L2N.CX P w) (k + 1) f fd ps sp := by
  obtain ⟨oc, od, kV, doc, pm, an, cdv, ct, osl, rfl, lk, hcd⟩ := F.ex
  exact fn_of lk hcd S len fun A outer s H vs Q E hr hsp => hbody cdv A outer s H vs Q E hr hsp
/-! ### the end of a list, while an error is handled -/
section
variable {prog : Program} {w : World} {A : Around} {E : Value → Shared → Prop} {s : Shared}
theorem pyNext_list_end_hot {it l x1 : Addr} {i : Nat} {items : Array Value} {Q : Option Value → Shared → Prop} (hot : HotX.HotAt A x1 s.heap) (hx1 : x1 ≠ it) (hit : s.heap.IsListIter it l i) (hl : s.heap.IsList l items) (hx : items[i]? = none)
    (hQ : ∀ h', (∀ b o, b ≠ it → s.heap.get? b = some o → h'.get? b = some o) → Q none { s with heap := h' }) : wpAny (model prog w) A (pyNext (.ref it)) Q E s := by
  obtain ⟨o, ho, hc, hd⟩ := id hit
  obtain ⟨ol, hol, _, nl, hdl⟩ := hl
  obtain ⟨hh, o1, vs1, h1, d1, c1⟩ := hot
  unfold pyNext
  refine wpAny_bind (wpAny_attempt (wpAny_callSpecial?_slot (name := Str.ofString "__next__") hit.typeIs slot_listiter_next
    (wpAny_call_entry slot_listiter_next hit.typeIs entry_listiter_next ?_ (args_listiter_next _))))
  show wpAny _ _ (field (.ref it) 0 >>= _) _ _ s
  refine wpAny_bind (wpAny_field ho hd (x := .ref l) rfl ?_)
  show wpAny _ _ (if (Value.ref l == Value.none) = true then _ else _) _ _ s
  rw [if_neg (show ¬ ((Value.ref l == Value.none) = true) from Bool.false_ne_true)]
  show wpAny _ _ (field (.ref it) 1 >>= _) _ _ s
  refine wpAny_bind (wpAny_field ho hd (x := .int i 0) rfl ?_)
  show wpAny _ _ (seqItems? (.ref l) >>= _) _ _ s
  refine wpAny_bind (wpAny_seqItems hol hdl ?_)
  simp only [Int.toNat_natCast, hx]
  refine wpAny_bind (wpAny_rule (wpAny_bind (wpAny_setField ho hd (by simp) ?_)))
  show wpAny _ _ (newExc (.type "StopIteration") [] >>= _) _ _ _
  refine wpAny_bind ?_
  simp only [newExc, newTuple]
  refine wpAny_bind (wpAny_newObj_type ?_ (by size_fits))
  refine wpAny_bind (m := firstArgMember _ _) (wpAny_of_eq (a := Value.none) (by first | rfl | (simp only [firstArgMember]; rfl)) ?_)
  refine wpAny_newObj_type ?_ (by size_fits)
  have k1 : ∀ b ob, b ≠ it → s.heap.get? b = some ob → (s.heap.update it (Obj.mapFields (·.setIfInBounds 0 Value.none))).get? b = some ob := fun b ob hb e => (Heap.get?_update_other _ _ (Ne.symm hb)).trans e
  have h1' := k1 _ _ hx1 h1
  refine HotX.raiseNew_hot ⟨hh, o1, vs1, Heap.get?_push_of_some _ (Heap.get?_push_of_some _ h1'), d1, c1⟩ (Nat.ne_of_lt (Heap.lt_size (Heap.get?_push_of_some _ h1'))) (Heap.get?_push_size _ rfl) rfl (by first | (simp; done) | (simp; omega) | (simp only [Array.size_append]; simp; omega)) ?_
  refine wpAny_bind (wpAny_isInstance (T := "StopIteration") (b := true) ⟨_, Heap.get?_update_self _ (Heap.get?_push_size _ rfl) rfl, rfl⟩ isSubtype_stop ?_)
  refine wpAny_pure (hQ _ fun b ob hb e => ?_)
  have e' := k1 b ob hb e
  rw [Heap.get?_update_other _ _ (Nat.ne_of_gt (Heap.lt_size (Heap.get?_push_of_some _ e')))]
  exact Heap.get?_push_of_some _ (Heap.get?_push_of_some _ e')
theorem walks_hot (I ax x1 : Addr) (hh : A.handled = some (.ref x1)) (o1 : Obj) (v1 : Array Value) (hd : o1.data = .fields v1) (hc : v1[2]? = some .none) (hne : ax ≠ I) (hx : x1 ≠ I) (items : Array Value) :
    Walks prog w A I [I, ax, x1] [I] items.size (fun i v => items[i]? = some v) (fun i h => h.IsListIter I ax i ∧ h.IsList ax items ∧ h.get? x1 = some o1) where
  sub := fun b hb => by simp at hb; simp [hb]
  frame := fun _ _ _ st hk => ⟨st.1.at fun o e => hk I (by simp) o e, st.2.1.at fun o e => hk ax (by simp) o e, hk x1 (by simp) _ st.2.2⟩
  item := fun i s Q E hi st hQ => by
    refine wpAny_pyNext_list_item st.1 st.2.1 (x := items[i]) (by simp [hi]) fun h' hit' hs' => ?_
    exact hQ _ h' s.toks (by simp [hi]) ⟨hit', st.2.1.extBut hs'.extBut hne, hs'.extBut _ _ hx st.2.2⟩ fun b o hb e => hs'.extBut b o (fun h => hb (by simp [h])) e
  done := fun s Q E st hQ => pyNext_list_end_hot ⟨hh, o1, v1, st.2.2, hd, hc⟩ hx st.1 st.2.1 (by simp) fun h' he' => hQ h' s.toks fun b o hb e => he' b o (fun h => hb (by simp [h])) e
  self := fun _ _ _ _ st hQ => wpAny_pyIter_listiter st.1 hQ
end
/-- any(a list of truths), in a suite -/
theorem cr_anyH {X : Cx} {a : Addr} {cls : Value} {d : Option Addr} {oe : Obj} {pn : List (Addr × Obj)} (hz : L2N.Zn cls d oe) (hf : ∃ vs, oe.data = .fields vs) : CallR (X.suite a ((a, oe) :: pn)) (.builtin "any") (rAny X.K) := by
  intro pins s σ H vs us Q I r h
  obtain ⟨l, bs, rfl, hs, q⟩ := h
  obtain ⟨its, rv, hl, _⟩ := I.list hs
  rw [Vals.ref1 r]
  have hb := rv.bls
  obtain ⟨v1, hv1⟩ := hf
  have hget := (I.pin (a, oe) (List.mem_append.mpr (.inl List.mem_cons_self))).1
  refine call_any_walk (iter_any hl.isList fun s₂ e2 st hne => ?_)
  subst e2
  refine ⟨_, _, _, _, _, _, _, rfl, walks_hot (A := (X.suite a ((a, oe) :: pn)).A.in1) _ l a rfl oe v1 hv1 (hz.2.2 _ hv1) hne (Nat.ne_of_lt (Heap.lt_size hget)) its.toArray, ⟨st.1, st.2, Heap.get?_push_of_some _ hget⟩, truth_bools hb, fun h' tk hk => ?_⟩
  refine ⟨.bl _, H, I.kept fun b o eo => hk b o (fun hmem => ?_) (Heap.get?_push_of_some _ eo), ?_, q⟩
  · rcases List.mem_cons.mp hmem with e1 | hmem
    · exact absurd (e1 ▸ Heap.lt_size eo) (Nat.lt_irrefl _)
    · cases hmem
  · show Value.bool _ = Value.bool _
    rw [← L2.any_range, hb, List.size_toArray, List.length_map]
end PA

set_option Elab.async false
set_option linter.all false
set_option maxRecDepth 100000
set_option maxHeartbeats 4000000
namespace PA
open PySem PySem.Spec PyProof.Rows L2 Evl
/-! ### sorted(d), the keys whole numbers, any number of them -/
def rSortedD : List V → Hp → VK → Prop := fun xs H Q => ∃ (a : Addr) (kvs : List (Key × V)) (ks : List Int), xs = [.ref a] ∧ Rd H a (.dK kvs) ∧ kvs.map (·.1) = ks.map Sum.inl ∧ ks.length ≤ 100000 ∧
    ∀ (ys : List Int) (p : Addr), ys.Perm ks → ys.Pairwise (· ≤ ·) → H p = none → Q (.ref p) (upd H p (.lst (ys.map V.int)))
theorem cr_sortedD {X : Cx} (hcalm : X.calm = true) : CallR X (.builtin "sorted") rSortedD := by
  intro pins s σ H xs us Q I r q
  obtain ⟨a, kvs, ks, ex, hd, hks, h64, q⟩ := q
  subst ex
  obtain ⟨u, eu, rx⟩ := vals1 r
  subst eu
  cases rx
  obtain ⟨z, lo, vs, rel, dd⟩ := dk_rd I.hok hd
  obtain ⟨ep, hat⟩ := dd.dictAt
  have hkeys : vs.map (·.1) = ks.map Sum.inl := rel.keys.symm.trans hks
  have hl : vs.length = ks.length := by
    have e := congrArg List.length hkeys
    rw [List.length_map, List.length_map] at e
    exact e
  have h16 : vs.length ≤ sizeLine := by rw [hl]; exact sz_of h64
  refine Calls.call_function_entry PyProof.Rows.kind_sorted PyProof.Rows.plain_sorted PyProof.Rows.entry_sorted (PyProof.Rows.args_sorted1 _) ?_
  unfold Builtin.«sorted»
  refine wpAny_bind (m := checkCount "sorted" 1 1 _) (wpAny_pure ?_)
  refine wpAny_bind (PySem.W.kdu_collect (A := X.A.in1) (PySem.W.kdl_dict (knd := mixKind X.prog X.w) (kvs := vs) (ep := ep) lo) (I.ok.hd hcalm) hat h16 fun h' tk acc hk hacc => ?_)
  have hal : acc.toList.length = ks.length := by rw [Array.length_toList, hacc.1, hl]
  have hS : IntsAre acc.toList ks := ints_each hal fun j v e => by
    obtain ⟨k, x, e1, e2⟩ := hacc.2 j v (by rw [← Array.getElem?_toList]; exact e)
    have e3 : (vs.map (·.1))[j]? = some k := by rw [List.getElem?_map, e1]; rfl
    rw [hkeys, List.getElem?_map] at e3
    cases e4 : ks[j]? with
    | none => rw [e4] at e3; cases e3
    | some y =>
      rw [e4] at e3
      have e5 : Sum.inl y = k := Option.some.inj e3
      subst e5
      rcases keyIs_shape (show keyIs (Sum.inl y) v = true from e2) with ⟨i, t, ek, ev⟩ | ⟨z, t, ek, ev⟩
      · cases ek
        exact ⟨y, t, rfl, ev⟩
      · cases ek
  have I1 : Inv X pins σ H { s with heap := h', toks := tk } := I.kept hk
  have hsz : acc.toList.length ≤ sizeLine := by rw [hal]; exact sz_of h64
  refine wpAny_bind (wpAny_newList ?_ (by exact hsz))
  have hoL : (h'.push (seqObj "list" acc.toList.toArray 0)).get? h'.objs.size = some (seqObj "list" acc.toList.toArray 0) := Heap.get?_push_size _ rfl
  show wpAny _ _ _ _ _ { s with heap := h'.push (seqObj "list" acc.toList.toArray 0), toks := tk }
  refine wpAny_bind (wpAny_holding (wpAny_call_entry PyProof.Rows.slot_list_sort ⟨_, hoL, rfl⟩ PyProof.Rows.entry_list_sort
    (SrtO.list_sort_ord (s := { s with heap := h'.push (seqObj "list" acc.toList.toArray 0), toks := tk }) SrtO.swo_int hoL hsz (fun h2 => SrtO.ints_sortable hS h2) fun out g1 g2 => ⟨_, rfl, ?_⟩) (PyProof.Rows.args_list_sort _)))
  obtain ⟨k1, k2, k3⟩ := SrtO.ints_out hS g1 g2
  obtain ⟨e', he'⟩ := PyProof.Rows.sortedHeap_at (vs := acc.toList) (out := out.toArray) hoL
  have hlen : ((out.map SrtO.iv).map V.int).length ≤ sizeLine := by
    rw [List.length_map, k2.length_eq]
    exact sz_of h64
  refine wpAny_pure ⟨_, rfl, .ref h'.objs.size, upd H h'.objs.size (.lst ((out.map SrtO.iv).map V.int)), I1.laid (t' := tk) (fun b u e => ?_) (Nat.le_refl _)
    (show ObjOk X.prog X.w _ _ _ (.lst ((out.map SrtO.iv).map V.int)) from ⟨hlen, out, e', vals_of_ints k1, he'⟩), rfl, q _ _ k2 k3 (I1.hok.fresh (Nat.le_refl _))⟩
  have hb : b < h'.objs.size := Heap.lt_size e
  rw [PyProof.Rows.sortedHeap_old (Nat.ne_of_lt hb) (by rw [size_push']; exact Nat.lt_succ_of_lt hb)]
  exact Heap.get?_push_of_some _ e
/-! ### where each number of a row stands, gathered in a dict -/
theorem any_key (kvs : List (Key × V)) (k : Key) : ((kvs.any fun kv => decide (kv.1 = k)) = true) ↔ k ∈ kvs.map (·.1) := by
  rw [List.any_eq_true, List.mem_map]
  constructor
  · rintro ⟨x, hx, h⟩
    exact ⟨x, hx, of_decide_eq_true h⟩
  · rintro ⟨x, hx, h⟩
    exact ⟨x, hx, decide_eq_true h⟩
theorem keys_in {kvs : List (Key × V)} {k : Key} (v : V) (h : k ∈ kvs.map (·.1)) : (putK kvs k v).map (·.1) = kvs.map (·.1) := by
  unfold putK
  rw [if_pos ((any_key kvs k).mpr h), List.map_map]
  refine List.map_congr_left fun kv _ => ?_
  show (if kv.1 = k then (kv.1, v) else kv).1 = kv.1
  split <;> rfl
theorem keys_out {kvs : List (Key × V)} {k : Key} (v : V) (h : k ∉ kvs.map (·.1)) : (putK kvs k v).map (·.1) = kvs.map (·.1) ++ [k] := by
  unfold putK
  rw [if_neg (fun z => h ((any_key kvs k).mp z)), List.map_append]
  rfl
theorem valV_out {kvs : List (Key × V)} {k : Key} (h : k ∉ kvs.map (·.1)) : valV kvs k = none := by
  unfold valV
  rw [List.find?_eq_none.mpr]
  · rfl
  · intro x hx z
    exact h (List.mem_map.mpr ⟨x, hx, of_decide_eq_true z⟩)
def occ (row : List Int) (i : Nat) (n : Int) : List Int := ((List.range i).filter fun j => decide (row.getD j 0 = n)).map fun (j : Nat) => (j : Int)
theorem occ_step (row : List Int) (i : Nat) (n : Int) : occ row (i + 1) n = if row.getD i 0 = n then occ row i n ++ [(i : Int)] else occ row i n := by
  unfold occ
  rw [List.range_succ, List.filter_append, List.map_append]
  by_cases h : row.getD i 0 = n
  · rw [if_pos h, List.filter_cons_of_pos (by exact decide_eq_true h)]
    rfl
  · rw [if_neg h, List.filter_cons_of_neg (by simpa using h)]
    simp
theorem occ_none {row : List Int} {i : Nat} {n : Int} (h : ¬ ∃ j, j < i ∧ row.getD j 0 = n) : occ row i n = [] := by
  unfold occ
  rw [List.filter_eq_nil_iff.mpr]
  · rfl
  · intro j hj z
    exact h ⟨j, List.mem_range.mp hj, of_decide_eq_true z⟩
def Seen (row : List Int) (i : Nat) (kvs : List (Key × V)) (H : Hp) : Prop := kvs.length ≤ i ∧ ∃ ks : List Int, kvs.map (·.1) = ks.map Sum.inl ∧ ks.Nodup ∧ (∀ n, n ∈ ks ↔ ∃ j, j < i ∧ row.getD j 0 = n) ∧ ∀ n, n ∈ ks → ∃ q, valV kvs (Sum.inl n) = some (.ref q) ∧ H q = some (.lst ((occ row i n).map V.int))
theorem seen_nil {row : List Int} {H : Hp} : Seen row 0 [] H := ⟨Nat.le_refl _, [], rfl, List.nodup_nil, fun n => ⟨(fun h => nomatch h), fun ⟨j, h, _⟩ => absurd h (Nat.not_lt_zero j)⟩, fun n h => nomatch h⟩
theorem Seen.step {row : List Int} {i : Nat} {kvs : List (Key × V)} {H H' : Hp} {d p : Addr} {x : Int} (hs : Seen row i kvs H) (hx : row.getD i 0 = x) (hd : ∃ us, H d = some (.dK us)) (e : ∀ b o, b ≠ d → H b = some o → H' b = some o) (hp : H' p = some (.lst ((occ row i x ++ [(i : Int)]).map V.int))) : Seen row (i + 1) (putK kvs (Sum.inl x) (.ref p)) H' := by
  obtain ⟨hl, ks, hk, nd, hm, hv⟩ := hs
  obtain ⟨us, hd⟩ := hd
  have mk : (Sum.inl x : Key) ∈ kvs.map (·.1) ↔ x ∈ ks := by
    rw [hk, List.mem_map]
    constructor
    · rintro ⟨y, hy, h⟩
      rw [← Sum.inl.inj h]
      exact hy
    · exact fun h => ⟨x, h, rfl⟩
  have vals : ∀ n, n ∈ ks ∨ n = x → ∃ q, valV (putK kvs (Sum.inl x) (.ref p)) (Sum.inl n) = some (.ref q) ∧ H' q = some (.lst ((occ row (i + 1) n).map V.int)) := fun n hn => by
    rw [valV_put]
    by_cases h : n = x
    · subst h
      rw [if_pos rfl, occ_step, if_pos hx]
      exact ⟨p, rfl, hp⟩
    · rw [if_neg (fun z => h (Sum.inl.inj z)), occ_step, if_neg (fun z => h (z.symm.trans hx))]
      obtain ⟨q, h1, h2⟩ := hv n (hn.resolve_right h)
      refine ⟨q, h1, e q _ (fun z => ?_) h2⟩
      rw [z, hd] at h2
      cases h2
  have mem : ∀ n, (n ∈ ks ∨ n = x) ↔ ∃ j, j < i + 1 ∧ row.getD j 0 = n := fun n => by
    rw [hm n]
    constructor
    · rintro (⟨j, h1, h2⟩ | h)
      · exact ⟨j, by omega, h2⟩
      · exact ⟨i, by omega, hx.trans h.symm⟩
    · rintro ⟨j, h1, h2⟩
      by_cases h : j = i
      · subst h
        exact .inr (h2.symm.trans hx)
      · exact .inl ⟨j, by omega, h2⟩
  by_cases h : x ∈ ks
  · have kp := keys_in (.ref p) (mk.mpr h)
    refine ⟨?_, ks, kp.trans hk, nd, fun n => ?_, fun n hn => vals n (.inl hn)⟩
    · have := congrArg List.length kp
      rw [List.length_map, List.length_map] at this
      omega
    · rw [← mem n]
      exact ⟨.inl, fun z => z.elim id fun e => by rw [e]; exact h⟩
  · have kp := keys_out (.ref p) (fun z => h (mk.mp z))
    refine ⟨?_, ks ++ [x], ?_, ?_, fun n => ?_, fun n hn => vals n ?_⟩
    · have := congrArg List.length kp
      rw [List.length_map, List.length_append, List.length_map] at this
      simp at this
      omega
    · rw [kp, hk, List.map_append]
      rfl
    · rw [List.nodup_append]
      exact ⟨nd, by simp, fun a ha b hb => by
        rw [List.mem_singleton.mp hb]
        exact fun z => h (z ▸ ha)⟩
    · rw [← mem n, List.mem_append, List.mem_singleton]
    · rw [List.mem_append, List.mem_singleton] at hn
      exact hn
section
variable {K : PySem.W.Frag} {σ : L2.St} {H H' : Hp} {ta tb te tx tc ta' tb' : TE} {D : Ends}
theorem s_seen {d : Addr} {kvs : List (Key × V)} {row : List Int} {i : Nat} {x : Int} (hd : H d = some (.dK kvs)) (hs : Seen row i kvs H) (hx : row.getD i 0 = x) (hi : i < 1000) (ha : ∀ H1, Ev ta σ H1 (.ref d)) (hb : ∀ H1, Ev tb σ H1 (.int x)) (hc : ∀ H1, Ev tc σ H1 (.int (i : Nat)))
    (ha' : ∀ H1, Ev ta' σ H1 (.ref d)) (hb' : ∀ H1, Ev tb' σ H1 (.int x)) (k : ∀ kvs' H2, (∀ b o, b ≠ d → H b = some o → H2 b = some o) → H2 d = some (.dK kvs') → Seen row (i + 1) kvs' H2 → D.nx σ H2) :
    tAsg (tOp rCat (tDGet2 ta tb (tLst tNil)) (tLst (tCons tc tNil))) (gSub ta' tb' rSetD) D σ H := by
  refine ha H H (Ex.refl H) _ fun H1 e1 => ⟨d, rfl, .inl ⟨kvs, .inl (e1 _ _ hd)⟩, hb H1 H1 (Ex.refl _) _ fun H2 e2 => ⟨sz_of (by show 0 ≤ 100000; decide), fun p0 hp0 => ⟨valV kvs (Sum.inl x), ?_, ?_⟩⟩⟩
  · have e3 : Ex H (upd H2 p0 (.lst [])) := (e1.trans e2).trans (Ex.new hp0)
    exact DGet.k (k := Sum.inl x) (e3 _ _ hd)
  · have e3 : Ex H (upd H2 p0 (.lst [])) := (e1.trans e2).trans (Ex.new hp0)
    obtain ⟨r, er, hr⟩ : ∃ r, (valV kvs (Sum.inl x)).getD (.ref p0) = .ref r ∧ (upd H2 p0 (.lst [])) r = some (.lst ((occ row i x).map V.int)) := by
      obtain ⟨hl, ks, hk, nd, hm, hv⟩ := hs
      by_cases h : x ∈ ks
      · obtain ⟨q, h1, h2⟩ := hv x h
        exact ⟨q, by rw [h1]; rfl, e3 _ _ h2⟩
      · refine ⟨p0, ?_, ?_⟩
        · rw [valV_out (fun z => ?_)]
          · rfl
          · rw [hk, List.mem_map] at z
            obtain ⟨y, hy, e⟩ := z
            exact h (Sum.inl.inj e ▸ hy)
        · rw [occ_none (fun z => h ((hm x).mpr z))]
          exact upd_same
    rw [er]
    refine hc _ _ (Ex.refl _) _ fun H4 e4 => ⟨sz_of (by show 1 ≤ 100000; decide), fun p1 hp1 => ⟨r, p1, _, _, rfl, rfl, (Ex.new hp1) _ _ (e4 _ _ hr), upd_same, sz_of ?_, fun p2 hp2 => ?_⟩⟩
    · have : (occ row i x).length ≤ i := by
        unfold occ
        rw [List.length_map]
        exact Nat.le_trans (List.length_filter_le _ _) (by rw [List.length_range]; exact Nat.le_refl _)
      rw [List.length_map]
      show _ + 1 ≤ 100000
      omega
    · refine ha' _ _ (Ex.refl _) _ fun H6 e6 => hb' _ _ (Ex.refl _) _ fun H7 e7 => ?_
      have e57 := e6.trans e7
      have e05 := (e3.trans e4).trans (Ex.new hp1 (o := .lst [V.int (i : Nat)]))
      have e07 := (e05.trans (Ex.new hp2 (o := .lst ((occ row i x).map V.int ++ [V.int (i : Nat)])))).trans e57
      have hp7 : H7 p2 = some (.lst ((occ row i x ++ [(i : Int)]).map V.int)) := by
        rw [List.map_append]
        exact e57 _ _ upd_same
      have nd : p2 ≠ d := fun z => by
        rw [z, e07 _ _ hd] at hp7
        cases hp7
      refine ⟨d, _, rfl, .inl ⟨kvs, Sum.inl x, e07 _ _ hd, rfl, Nat.lt_of_le_of_lt (Nat.le_trans hs.1 (Nat.le_of_lt hi)) (Nat.lt_of_lt_of_le (show 1000 < 100000 by decide) (sz_of (Nat.le_refl _))), rfl⟩, k _ _ (fun b o nb h => ?_) upd_same (hs.step hx ⟨_, hd⟩ (fun b o nb h => ?_) ?_)⟩
      · rw [upd_ne nb]
        exact e07 _ _ h
      · rw [upd_ne nb]
        exact e07 _ _ h
      · rw [upd_ne nd]
        exact hp7
/-- for i, x in enumerate(a list) -/
theorem s_forE {a : Addr} {xs : List V} {tl : TE} {tu : TS} {j1 j2 : Nat} (h : Ev tl σ H (.ref a)) (hx0 : SqL K H a xs) (Pv : Nat → L2.St → Hp → Prop) (h0 : ∀ H1, Ex H H1 → Pv 0 σ H1) (hl : ∀ i σ' H', i ≤ xs.length → Pv i σ' H' → SqL K H' a xs)
    (hn : ∀ i σ' H' T o, Pv i σ' H' → H' T = none → Pv i σ' (upd H' T o)) (hs : ∀ i x σ' H', xs[i]? = some x → Pv i σ' H' → tu { D with nx := Pv (i + 1), ct := Pv (i + 1), bk := D.nx } ((σ'.set j1 (some (.int (i : Nat)))).set j2 (some x)) H')
    (hd : ∀ σ' H', Pv xs.length σ' H' → D.nx σ' H') : tFor (iEnum K (tCons tl tNil)) (gTup K 2 (gCons (gName j1) (gCons (gName j2) gNil))) tu D σ H :=
  h H (Ex.refl H) _ fun H1 e => ⟨a, xs, rfl, ex_l e hx0, fun i m σ' H' => m = xs.length - i ∧ i ≤ xs.length ∧ Pv i σ' H', ⟨xs.length, by simp, Nat.zero_le _, h0 H1 e⟩, fun i m σ' H' hW => by
    obtain ⟨em, hi, p⟩ := hW
    have hq := hl i σ' H' hi p
    by_cases hlt : i < xs.length
    · refine .inr ⟨⟨xs, xs[i], hq, List.getElem?_eq_getElem hlt⟩, Pv (i + 1), fun σ2 H2 p' => ⟨xs.length - (i + 1), by omega, rfl, hlt, p'⟩, fun y H'' hy => ?_⟩
      obtain ⟨T, x, rfl, hT, rfl, hg⟩ := hy
      exact ⟨T, _, rfl, st_of upd_same, rfl, _, _, rfl, _, _, rfl, rfl, hs i x σ' _ (hg xs hq) (hn i σ' H' T _ p hT)⟩
    · have ei : i = xs.length := by omega
      subst ei
      exact .inl ⟨⟨xs, hq, Nat.le_refl _⟩, hd σ' H' p⟩⟩
/-- [te for k in a dict] -/
theorem el_keys {d : Addr} {kvs : List (Key × V)} {td : TE} {j : Nat} {vs : List Nat} (v : Nat → V) (hd : H d = some (.dK kvs)) (h : ∀ H1, Ev td σ H1 (.ref d)) (hz : kvs.length ≤ 40000) (hw : ∀ x, wipe ((wipe σ vs).set j (some x)) vs = wipe σ vs)
    (he : ∀ (i : Nat) k w H1, kvs[i]? = some (k, w) → (∀ b o, b ≠ d → H b = some o → H1 b = some o) → Rd H1 d (.dK kvs) → Ev te ((wipe σ vs).set j (some (kV k))) H1 (v i)) :
    EvL (tLockE (tLc (iKeys td) (gName j) tYes te vs)) σ H (given kvs.length (fun _ => true) v) := fun H1 e Q q => ⟨d, .dK kvs, e _ _ hd, trivial, fun od => h _ _ (Ex.refl _) _ fun H2 e2 => ⟨d, od, rfl, .inl ⟨kvs, e2 _ _ upd_same, fun Dl hD => by
    have hd2 : H2 d = some (.frz od (.dK kvs)) := e2 _ _ upd_same
    have nD : Dl ≠ d := fun z => by
      rw [z, hd2] at hD
      cases hD
    have e12 : ∀ b o, b ≠ d → H1 b = some o → H2 b = some o := fun b o nb hb => e2 b o (by rw [upd_ne nb]; exact hb)
    refine ⟨fun i m H' => m = kvs.length - i ∧ i ≤ kvs.length ∧ Cw H2 (fun _ => true) v Dl i H', ⟨kvs.length, by simp, Nat.zero_le _, hD, Ex.new hD, upd_same⟩, fun i m H' hW => ?_⟩
    obtain ⟨em, hi, p⟩ := hW
    have hdd : H' d = some (.frz od (.dK kvs)) := p.2.1 _ _ hd2
    by_cases hlt : i < kvs.length
    · refine .inr ⟨⟨hdd, hlt⟩, Cw H2 (fun _ => true) v Dl (i + 1), fun H'' p' => ⟨kvs.length - (i + 1), by omega, rfl, hlt, p'⟩, fun y H'' hy => ?_⟩
      obtain ⟨rfl, k, w, hk, rfl⟩ := hy
      exact ⟨hw _, cw_turn p (by omega) et_yes fun _ => he i k w H2 hk (fun b o nb hb => e12 b o nb (e _ _ hb)) (.inr ⟨od, hd2⟩)⟩
    · have ei : i = kvs.length := by omega
      subst ei
      refine .inl ⟨⟨hdd, Nat.le_refl _⟩, hdd, q Dl _ ?_ (fun b o hb => ?_) ?_⟩
      · cases z : H1 Dl with
        | none => rfl
        | some o => rw [e12 _ _ nD z] at hD; cases hD
      · by_cases nb : b = d
        · subst nb
          rw [e _ _ hd] at hb
          rw [upd_same]
          exact hb
        · rw [upd_ne nb]
          exact p.2.1 _ _ (e12 _ _ nb hb)
      · rw [upd_ne nD]
        exact p.2.2⟩⟩⟩
/-- a list that a dict holds -/
theorem ev_dgetR {d : Addr} {kvs : List (Key × V)} {n : Int} {v : V} (h : Rd H d (.dK kvs)) (hd : ∀ H1, Ev ta σ H1 (.ref d)) (hk : ∀ H1, Ev tb σ H1 (.int n)) (hv : valV kvs (Sum.inl n) = some v) : Ev (tDGet ta tb) σ H v := fun H1 e Q q =>
  hd H1 H1 (Ex.refl _) _ fun H2 e2 => hk H2 H2 (Ex.refl _) _ fun H3 e3 => ⟨d, v, rfl, .inl ⟨kvs, Sum.inl n, (by
    rcases h with h | ⟨o, h⟩
    · exact .inl (((e.trans e2).trans e3) _ _ h)
    · exact .inr ⟨o, ((e.trans e2).trans e3) _ _ h⟩), rfl, hv.symm⟩, q H3 (e2.trans e3)⟩
end
/-! ### of a right row -/
theorem occ_row {l n : Int} (hl : Can l) (h1 : 1 ≤ n) (h2 : n ≤ l) : occ (rowL l) (rowL l).length n = [fst l n, fst l n + n] := by
  have fr := fst_rng hl h1 h2
  have e : occ (rowL l) (rowL l).length n = (posL (rowL l) n).map fun (j : Nat) => (j : Int) := rfl
  rw [e, rowL_pos hl h1 h2]
  show [((fst l n).toNat : Int), ((fst l n + n).toNat : Int)] = _
  rw [show (((fst l n).toNat : Nat) : Int) = fst l n by omega, show (((fst l n + n).toNat : Nat) : Int) = fst l n + n by omega]
theorem seen_keys {l : Int} (hl : Can l) {ks : List Int} (hm : ∀ n, n ∈ ks ↔ ∃ j, j < (rowL l).length ∧ (rowL l).getD j 0 = n) (n : Int) : n ∈ ks ↔ 1 ≤ n ∧ n ≤ l := by
  rw [hm n]
  constructor
  · rintro ⟨j, h1, h2⟩
    rw [rowL_len] at h1
    have ha := at_num hl (show 0 ≤ (j : Int) by omega) (show (j : Int) < 2 * l by omega)
    have e : (rowL l).getD j 0 = num l j := by
      unfold rowL
      simp [List.getD_eq_getElem?_getD, h1]
    rw [e] at h2
    rw [← h2]
    exact ha.1
  · rintro ⟨h1, h2⟩
    have : (fst l n).toNat ∈ posL (rowL l) n := by
      rw [rowL_pos hl h1 h2]
      exact List.mem_cons_self
    exact ⟨_, mem_pos.mp this⟩
theorem Seen.ex {row : List Int} {i : Nat} {kvs : List (Key × V)} {H H' : Hp} (e : Ex H H') (hs : Seen row i kvs H) : Seen row i kvs H' := by
  obtain ⟨hl, ks, hk, nd, hm, hv⟩ := hs
  exact ⟨hl, ks, hk, nd, hm, fun n hn => by
    obtain ⟨q, h1, h2⟩ := hv n hn
    exact ⟨q, h1, e _ _ h2⟩⟩
theorem up_nodup (i : Int) (n : Nat) : ((List.range n).map fun (k : Nat) => i + (k : Int)).Nodup := by
  refine (List.pairwise_map.mpr ?_)
  exact List.nodup_range.imp fun h z => h (by omega)
theorem up_sorted (i : Int) (n : Nat) : ((List.range n).map fun (k : Nat) => i + (k : Int)).Pairwise (· ≤ ·) := by
  refine (List.pairwise_map.mpr ?_)
  exact (List.pairwise_lt_range (n := n)).imp fun h => by omega
/-- sorted(seen) of a right row -/
theorem el_seen {K : PySem.W.Frag} {σ : L2.St} {H : Hp} {ta : TE} {d : Addr} {kvs : List (Key × V)} {l : Int} (hl : Can l) (h100 : l ≤ 100) (hd : H d = some (.dK kvs)) (hs : Seen (rowL l) (rowL l).length kvs H) (ha : Ev ta σ H (.ref d)) :
    EvL (tCB rSortedD (tCons ta tNil)) σ H (((List.range (l + 1 - 1).toNat).map fun (k : Nat) => (1 : Int) + (k : Int)).map V.int) := fun H1 e Q q =>
  ha H1 e _ fun H2 e2 => by
    obtain ⟨hl2, ks, hk, nd, hm, hv⟩ := hs
    have l1 := hl.1
    have hlen := congrArg List.length hk
    rw [List.length_map, List.length_map] at hlen
    have hr := rowL_len l
    refine ⟨d, kvs, ks, rfl, .inl ((e.trans e2) _ _ hd), hk, by omega, fun ys p hp hq hn => ?_⟩
    have perm : ks.Perm ((List.range (l + 1 - 1).toNat).map fun (k : Nat) => (1 : Int) + (k : Int)) := (List.perm_ext_iff_of_nodup nd (up_nodup 1 _)).mpr fun n => by
      rw [seen_keys hl hm n, List.mem_map]
      constructor
      · rintro ⟨h1, h2⟩
        exact ⟨(n - 1).toNat, List.mem_range.mpr (by omega), by omega⟩
      · rintro ⟨k, h1, h2⟩
        have := List.mem_range.mp h1
        omega
    rw [sorted_eq (hp.trans perm) hq (up_sorted 1 _)]
    exact q p _ (fresh_back e2 hn) (e2.trans (Ex.new hn)) upd_same
end PA

set_option Elab.async false
set_option linter.all false
set_option maxRecDepth 100000
set_option maxHeartbeats 4000000
namespace PA
open PySem PySem.Spec PyProof.Rows L2 Evl
/-! ### the written table of small rows -/
def KTup (K : PySem.W.Frag) (a : Addr) (ns : List Int) : Prop := ∀ H, SqT K H a (ns.map V.int)
def Firsts (K : PySem.W.Frag) (d : Addr) : Prop := ∀ l : Int, l = 1 ∨ l = 4 ∨ l = 5 → ∃ a, KInt K d l (.ref a) ∧ KTup K a (small l)
theorem ktup_mk {K : PySem.W.Frag} {a : Addr} {dd : Option Addr} {its : Array Value} {n : Nat} {sl : Array (Option Value)} {ns : List Int} (h : K.lookup a = some ⟨.type "tuple", dd, .seq its n, sl⟩) (hz : its.size ≤ 100) (hv : Vals (ns.map V.int) its.toList) : KTup K a ns :=
  fun _ => .inr ⟨_, its, n, h, rfl, rfl, Nat.le_trans hz (by decide), hv⟩
theorem firsts_mk {K : PySem.W.Frag} {d a1 a4 a5 : Addr} {t1 t4 t5 : Tok} {n : Nat} {dd1 dd4 dd5 : Option Addr} {n1 n4 n5 : Nat} {s1 s4 s5 : Array (Option Value)} {u0 u1 u2 u3 u4 u5 u6 u7 u8 u9 : Tok}
    (h : K.lookup d = some ⟨.type "dict", none, .dict #[⟨1, .int 1 t1, .ref a1⟩, ⟨4, .int 4 t4, .ref a4⟩, ⟨5, .int 5 t5, .ref a5⟩] n, #[]⟩)
    (h1 : K.lookup a1 = some ⟨.type "tuple", dd1, .seq #[.int 1 u0] n1, s1⟩) (h4 : K.lookup a4 = some ⟨.type "tuple", dd4, .seq #[.int 1 u1, .int 5 u2, .int 3 u3, .int 4 u4] n4, s4⟩)
    (h5 : K.lookup a5 = some ⟨.type "tuple", dd5, .seq #[.int 8 u5, .int 3 u6, .int 1 u7, .int 6 u8, .int 2 u9] n5, s5⟩) : Firsts K d := by
  have keys : ∀ e ∈ (#[⟨1, .int 1 t1, .ref a1⟩, ⟨4, .int 4 t4, .ref a4⟩, ⟨5, .int 5 t5, .ref a5⟩] : Array DictEntry), ∃ k t, e.key = .int k t ∧ e.hash = hashInt k := by
    intro e he
    simp only [List.mem_toArray, List.mem_cons, List.not_mem_nil, or_false] at he
    rcases he with rfl | rfl | rfl
    · exact ⟨1, t1, rfl, show (1 : Int) = hashInt 1 by decide⟩
    · exact ⟨4, t4, rfl, show (4 : Int) = hashInt 4 by decide⟩
    · exact ⟨5, t5, rfl, show (5 : Int) = hashInt 5 by decide⟩
  intro l hl
  rcases hl with rfl | rfl | rfl
  · exact ⟨a1, ⟨_, n, .ref a1, h, keys, rfl, rfl⟩, ktup_mk h1 (show 1 ≤ 100 by decide) (.cons ⟨_, rfl⟩ .nil)⟩
  · exact ⟨a4, ⟨_, n, .ref a4, h, keys, rfl, rfl⟩, ktup_mk h4 (show 4 ≤ 100 by decide) (.cons ⟨_, rfl⟩ (.cons ⟨_, rfl⟩ (.cons ⟨_, rfl⟩ (.cons ⟨_, rfl⟩ .nil))))⟩
  · exact ⟨a5, ⟨_, n, .ref a5, h, keys, rfl, rfl⟩, ktup_mk h5 (show 5 ≤ 100 by decide) (.cons ⟨_, rfl⟩ (.cons ⟨_, rfl⟩ (.cons ⟨_, rfl⟩ (.cons ⟨_, rfl⟩ (.cons ⟨_, rfl⟩ .nil)))))⟩
def topS (i : Nat) : Stmt := PySem.Challenge.pw_pairsapart_k02_whole_rows.main.body.getD i (.Pass ⟨0, 0, 0, 0⟩)
abbrev s_Can_shows : Stmt := inClass (topS 2) 0
abbrev N_Can_shows : List Str := ["self", "last"]
theorem sc_Can_shows : FnScope ["self", "last"] ["self", "last"] (defScope s_Can_shows) := ⟨rfl, rfl, rfl, by decide +kernel, rfl, by decide +kernel, by decide +kernel⟩
abbrev s_Barred_shows : Stmt := inClass (topS 3) 0
abbrev N_Barred_shows : List Str := ["self", "last"]
theorem sc_Barred_shows : FnScope ["self", "last"] ["self", "last"] (defScope s_Barred_shows) := ⟨rfl, rfl, rfl, by decide +kernel, rfl, by decide +kernel, by decide +kernel⟩
abbrev s_is_right : Stmt := topS 4
abbrev N_is_right : List Str := ["row", "number", "first"]
theorem sc_is_right : FnScope ["row", "number", "first"] ["row", "number"] (defScope s_is_right) := ⟨rfl, rfl, rfl, by decide +kernel, rfl, by decide +kernel, by decide +kernel⟩
abbrev s_Good_shows : Stmt := inClass (topS 5) 0
abbrev N_Good_shows : List Str := ["self", "row", "number"]
theorem sc_Good_shows : FnScope ["self", "row", "number"] ["self", "row"] (defScope s_Good_shows) := ⟨rfl, rfl, rfl, by decide +kernel, rfl, by decide +kernel, by decide +kernel⟩
abbrev s_Off___init__ : Stmt := inClass (topS 6) 0
abbrev N_Off___init__ : List Str := ["self", "number"]
theorem sc_Off___init__ : FnScope ["self", "number"] ["self", "number"] (defScope s_Off___init__) := ⟨rfl, rfl, rfl, by decide +kernel, rfl, by decide +kernel, by decide +kernel⟩
abbrev s_Off_shows : Stmt := inClass (topS 6) 1
abbrev N_Off_shows : List Str := ["self", "row"]
theorem sc_Off_shows : FnScope ["self", "row"] ["self", "row"] (defScope s_Off_shows) := ⟨rfl, rfl, rfl, by decide +kernel, rfl, by decide +kernel, by decide +kernel⟩
abbrev s_is_number : Stmt := topS 17
abbrev N_is_number : List Str := ["thing"]
theorem sc_is_number : FnScope ["thing"] ["thing"] (defScope s_is_number) := ⟨rfl, rfl, rfl, by decide +kernel, rfl, by decide +kernel, by decide +kernel⟩
abbrev s_asked_last : Stmt := topS 18
abbrev N_asked_last : List Str := ["last"]
theorem sc_asked_last : FnScope ["last"] ["last"] (defScope s_asked_last) := ⟨rfl, rfl, rfl, by decide +kernel, rfl, by decide +kernel, by decide +kernel⟩
abbrev s_can : Stmt := topS 19
abbrev N_can : List Str := ["last"]
theorem sc_can : FnScope ["last"] ["last"] (defScope s_can) := ⟨rfl, rfl, rfl, by decide +kernel, rfl, by decide +kernel, by decide +kernel⟩
abbrev s_asked_row : Stmt := topS 20
abbrev N_asked_row : List Str := ["last"]
theorem sc_asked_row : FnScope ["last"] ["last"] (defScope s_asked_row) := ⟨rfl, rfl, rfl, by decide +kernel, rfl, by decide +kernel, by decide +kernel⟩
abbrev s_first_by_fours : Stmt := topS 21
abbrev N_first_by_fours : List Str := ["part", "number", "told"]
theorem sc_first_by_fours : FnScope ["part", "number", "told"] ["part", "number"] (defScope s_first_by_fours) := ⟨rfl, rfl, rfl, by decide +kernel, rfl, by decide +kernel, by decide +kernel⟩
abbrev s_first_by_ones : Stmt := topS 22
abbrev N_first_by_ones : List Str := ["part", "number", "told"]
theorem sc_first_by_ones : FnScope ["part", "number", "told"] ["part", "number"] (defScope s_first_by_ones) := ⟨rfl, rfl, rfl, by decide +kernel, rfl, by decide +kernel, by decide +kernel⟩
abbrev s_first_of : Stmt := topS 23
abbrev N_first_of : List Str := ["last", "number"]
theorem sc_first_of : FnScope ["last", "number"] ["last", "number"] (defScope s_first_of) := ⟨rfl, rfl, rfl, by decide +kernel, rfl, by decide +kernel, by decide +kernel⟩
abbrev s_both : Stmt := topS 24
abbrev N_both : List Str := ["last", "number", "first"]
theorem sc_both : FnScope ["last", "number", "first"] ["last", "number"] (defScope s_both) := ⟨rfl, rfl, rfl, by decide +kernel, rfl, by decide +kernel, by decide +kernel⟩
abbrev s_places_of : Stmt := topS 25
abbrev N_places_of : List Str := ["last", "number"]
theorem sc_places_of : FnScope ["last", "number"] ["last", "number"] (defScope s_places_of) := ⟨rfl, rfl, rfl, by decide +kernel, rfl, by decide +kernel, by decide +kernel⟩
abbrev s_at_place : Stmt := topS 26
abbrev N_at_place : List Str := ["last", "place", "part", "middle", "one", "some", "more", "number"]
theorem sc_at_place : FnScope ["last", "place", "part", "middle", "one", "some", "more", "number"] ["last", "place"] (defScope s_at_place) := ⟨rfl, rfl, rfl, by decide +kernel, rfl, by decide +kernel, by decide +kernel⟩
abbrev s_number_at : Stmt := topS 27
abbrev N_number_at : List Str := ["last", "place"]
theorem sc_number_at : FnScope ["last", "place"] ["last", "place"] (defScope s_number_at) := ⟨rfl, rfl, rfl, by decide +kernel, rfl, by decide +kernel, by decide +kernel⟩
abbrev s_row : Stmt := topS 28
abbrev N_row : List Str := ["last", "found", "number", "place"]
theorem sc_row : FnScope ["last", "found", "number", "place"] ["last"] (defScope s_row) := ⟨rfl, rfl, rfl, by decide +kernel, rfl, by decide +kernel, by decide +kernel⟩
abbrev s_three_by : Stmt := topS 30
abbrev N_three_by : List Str := ["last", "number", "first"]
theorem sc_three_by : FnScope ["last", "number", "first"] ["last", "number"] (defScope s_three_by) := ⟨rfl, rfl, rfl, by decide +kernel, rfl, by decide +kernel, by decide +kernel⟩
abbrev s_three_of : Stmt := topS 31
abbrev N_three_of : List Str := ["last", "number"]
theorem sc_three_of : FnScope ["last", "number"] ["last", "number"] (defScope s_three_of) := ⟨rfl, rfl, rfl, by decide +kernel, rfl, by decide +kernel, by decide +kernel⟩
abbrev s__law_number : Stmt := topS 33
abbrev N__law_number : List Str := ["_law_cell", "_law_at", "_law_whole_here", "_law_mixed", "_law_more"]
theorem sc__law_number : FnScope ["_law_cell", "_law_at", "_law_whole_here", "_law_mixed", "_law_more"] ["_law_cell", "_law_at", "_law_whole_here"] (defScope s__law_number) := ⟨rfl, rfl, rfl, by decide +kernel, rfl, by decide +kernel, by decide +kernel⟩
abbrev s__law_last : Stmt := topS 34
abbrev N__law_last : List Str := ["_law_script", "_law_at", "_law_cells", "_law_number_here", "_law_found"]
theorem sc__law_last : FnScope ["_law_script", "_law_at", "_law_cells", "_law_number_here", "_law_found"] ["_law_script", "_law_at"] (defScope s__law_last) := ⟨rfl, rfl, rfl, by decide +kernel, rfl, by decide +kernel, by decide +kernel⟩
abbrev s__law_whole : Stmt := topS 35
abbrev N__law_whole : List Str := ["_law_number_here"]
theorem sc__law_whole : FnScope ["_law_number_here"] ["_law_number_here"] (defScope s__law_whole) := ⟨rfl, rfl, rfl, by decide +kernel, rfl, by decide +kernel, by decide +kernel⟩
abbrev s__law_can_right : Stmt := topS 36
abbrev N__law_can_right : List Str := ["_law_last_here", "_law_found", "_law_more", "_law_due", "_law_said", "_law_one"]
theorem sc__law_can_right : FnScope ["_law_last_here", "_law_found", "_law_more", "_law_due", "_law_said", "_law_one"] ["_law_last_here"] (defScope s__law_can_right) := ⟨rfl, rfl, rfl, by decide +kernel, rfl, by decide +kernel, by decide +kernel⟩
abbrev s__law_none_right : Stmt := topS 37
abbrev N__law_none_right : List Str := ["_law_last_here", "_law_door", "error", "_law_others"]
theorem sc__law_none_right : FnScope ["_law_last_here", "_law_door", "error", "_law_others"] ["_law_last_here"] (defScope s__law_none_right) := ⟨rfl, rfl, rfl, by decide +kernel, rfl, by decide +kernel, by decide +kernel⟩
abbrev s_law : Stmt := topS 38
abbrev N_law : List Str := ["_law_script", "_law_whole_here", "_law_at", "_law_last_here", "_law_more", "_law_found", "_law_seen", "_law_place", "_law_one"]
theorem sc_law : FnScope ["_law_script", "_law_whole_here", "_law_at", "_law_last_here", "_law_more", "_law_found", "_law_seen", "_law_place", "_law_one"] ["_law_script"] (defScope s_law) := ⟨rfl, rfl, rfl, by decide +kernel, rfl, by decide +kernel, by decide +kernel⟩
/-- what the top has left -/
structure Tx (K : PySem.W.Frag) (mg : Str → Option Value) where
  a_Can_shows : Addr
  d_Can_shows : FuncData
  F_Can_shows : Fun K "shows" "Can.shows" s_Can_shows a_Can_shows d_Can_shows
  b_Can_shows : Binds K d_Can_shows ["self", "last"] []
  a_Barred_shows : Addr
  d_Barred_shows : FuncData
  F_Barred_shows : Fun K "shows" "Barred.shows" s_Barred_shows a_Barred_shows d_Barred_shows
  b_Barred_shows : Binds K d_Barred_shows ["self", "last"] []
  a_is_right : Addr
  d_is_right : FuncData
  F_is_right : Fun K "is_right" "is_right" s_is_right a_is_right d_is_right
  b_is_right : Binds K d_is_right ["row", "number"] []
  g_is_right : mg "is_right" = some (.ref a_is_right)
  a_Good_shows : Addr
  d_Good_shows : FuncData
  F_Good_shows : Fun K "shows" "Good.shows" s_Good_shows a_Good_shows d_Good_shows
  b_Good_shows : Binds K d_Good_shows ["self", "row"] []
  a_Off___init__ : Addr
  d_Off___init__ : FuncData
  F_Off___init__ : Fun K "__init__" "Off.__init__" s_Off___init__ a_Off___init__ d_Off___init__
  b_Off___init__ : Binds K d_Off___init__ ["self", "number"] []
  a_Off_shows : Addr
  d_Off_shows : FuncData
  F_Off_shows : Fun K "shows" "Off.shows" s_Off_shows a_Off_shows d_Off_shows
  b_Off_shows : Binds K d_Off_shows ["self", "row"] []
  a_is_number : Addr
  d_is_number : FuncData
  F_is_number : Fun K "is_number" "is_number" s_is_number a_is_number d_is_number
  b_is_number : Binds K d_is_number ["thing"] []
  g_is_number : mg "is_number" = some (.ref a_is_number)
  a_asked_last : Addr
  d_asked_last : FuncData
  F_asked_last : Fun K "asked_last" "asked_last" s_asked_last a_asked_last d_asked_last
  b_asked_last : Binds K d_asked_last ["last"] []
  g_asked_last : mg "asked_last" = some (.ref a_asked_last)
  a_can : Addr
  d_can : FuncData
  F_can : Fun K "can" "can" s_can a_can d_can
  b_can : Binds K d_can ["last"] []
  g_can : mg "can" = some (.ref a_can)
  a_asked_row : Addr
  d_asked_row : FuncData
  F_asked_row : Fun K "asked_row" "asked_row" s_asked_row a_asked_row d_asked_row
  b_asked_row : Binds K d_asked_row ["last"] []
  g_asked_row : mg "asked_row" = some (.ref a_asked_row)
  a_first_by_fours : Addr
  d_first_by_fours : FuncData
  F_first_by_fours : Fun K "first_by_fours" "first_by_fours" s_first_by_fours a_first_by_fours d_first_by_fours
  b_first_by_fours : Binds K d_first_by_fours ["part", "number"] []
  g_first_by_fours : mg "first_by_fours" = some (.ref a_first_by_fours)
  a_first_by_ones : Addr
  d_first_by_ones : FuncData
  F_first_by_ones : Fun K "first_by_ones" "first_by_ones" s_first_by_ones a_first_by_ones d_first_by_ones
  b_first_by_ones : Binds K d_first_by_ones ["part", "number"] []
  g_first_by_ones : mg "first_by_ones" = some (.ref a_first_by_ones)
  a_first_of : Addr
  d_first_of : FuncData
  F_first_of : Fun K "first_of" "first_of" s_first_of a_first_of d_first_of
  b_first_of : Binds K d_first_of ["last", "number"] []
  g_first_of : mg "first_of" = some (.ref a_first_of)
  a_both : Addr
  d_both : FuncData
  F_both : Fun K "both" "both" s_both a_both d_both
  b_both : Binds K d_both ["last", "number"] []
  g_both : mg "both" = some (.ref a_both)
  a_places_of : Addr
  d_places_of : FuncData
  F_places_of : Fun K "places_of" "places_of" s_places_of a_places_of d_places_of
  b_places_of : Binds K d_places_of ["last", "number"] []
  g_places_of : mg "places_of" = some (.ref a_places_of)
  a_at_place : Addr
  d_at_place : FuncData
  F_at_place : Fun K "at_place" "at_place" s_at_place a_at_place d_at_place
  b_at_place : Binds K d_at_place ["last", "place"] []
  g_at_place : mg "at_place" = some (.ref a_at_place)
  a_number_at : Addr
  d_number_at : FuncData
  F_number_at : Fun K "number_at" "number_at" s_number_at a_number_at d_number_at
  b_number_at : Binds K d_number_at ["last", "place"] []
  g_number_at : mg "number_at" = some (.ref a_number_at)
  a_row : Addr
  d_row : FuncData
  F_row : Fun K "row" "row" s_row a_row d_row
  b_row : Binds K d_row ["last"] []
  g_row : mg "row" = some (.ref a_row)
  a_three_by : Addr
  d_three_by : FuncData
  F_three_by : Fun K "three_by" "three_by" s_three_by a_three_by d_three_by
  b_three_by : Binds K d_three_by ["last", "number"] []
  g_three_by : mg "three_by" = some (.ref a_three_by)
  a_three_of : Addr
  d_three_of : FuncData
  F_three_of : Fun K "three_of" "three_of" s_three_of a_three_of d_three_of
  b_three_of : Binds K d_three_of ["last", "number"] []
  g_three_of : mg "three_of" = some (.ref a_three_of)
  a__law_number : Addr
  d__law_number : FuncData
  F__law_number : Fun K "_law_number" "_law_number" s__law_number a__law_number d__law_number
  b__law_number : Binds K d__law_number ["_law_cell", "_law_at", "_law_whole_here"] []
  g__law_number : mg "_law_number" = some (.ref a__law_number)
  a__law_last : Addr
  d__law_last : FuncData
  F__law_last : Fun K "_law_last" "_law_last" s__law_last a__law_last d__law_last
  b__law_last : Binds K d__law_last ["_law_script", "_law_at"] []
  g__law_last : mg "_law_last" = some (.ref a__law_last)
  a__law_whole : Addr
  d__law_whole : FuncData
  F__law_whole : Fun K "_law_whole" "_law_whole" s__law_whole a__law_whole d__law_whole
  b__law_whole : Binds K d__law_whole ["_law_number_here"] []
  g__law_whole : mg "_law_whole" = some (.ref a__law_whole)
  a__law_can_right : Addr
  d__law_can_right : FuncData
  F__law_can_right : Fun K "_law_can_right" "_law_can_right" s__law_can_right a__law_can_right d__law_can_right
  b__law_can_right : Binds K d__law_can_right ["_law_last_here"] []
  g__law_can_right : mg "_law_can_right" = some (.ref a__law_can_right)
  a__law_none_right : Addr
  d__law_none_right : FuncData
  F__law_none_right : Fun K "_law_none_right" "_law_none_right" s__law_none_right a__law_none_right d__law_none_right
  b__law_none_right : Binds K d__law_none_right ["_law_last_here"] []
  g__law_none_right : mg "_law_none_right" = some (.ref a__law_none_right)
  a_law : Addr
  d_law : FuncData
  F_law : Fun K "law" "law" s_law a_law d_law
  b_law : Binds K d_law ["_law_script"] []
  g_law : mg "law" = some (.ref a_law)
  c_Answer : Addr
  g_Answer : mg "Answer" = some (.ref c_Answer)
  c_Can : Addr
  g_Can : mg "Can" = some (.ref c_Can)
  n_Can : New0 K c_Can
  i_Can : InsT K c_Can
  s_Can : Meth K c_Can "shows" a_Can_shows
  c_Barred : Addr
  g_Barred : mg "Barred" = some (.ref c_Barred)
  n_Barred : New0 K c_Barred
  i_Barred : InsT K c_Barred
  s_Barred : Meth K c_Barred "shows" a_Barred_shows
  c_Good : Addr
  g_Good : mg "Good" = some (.ref c_Good)
  n_Good : New0 K c_Good
  i_Good : InsT K c_Good
  s_Good : Meth K c_Good "shows" a_Good_shows
  c_Off : Addr
  g_Off : mg "Off" = some (.ref c_Off)
  n_Off : Mk K c_Off a_Off___init__
  na_Off_number : NoAttr K c_Off "number"
  i_Off : InsT K c_Off
  s_Off : Meth K c_Off "shows" a_Off_shows
  c_PairError : Addr
  g_PairError : mg "PairError" = some (.ref c_PairError)
  x_PairError : ExcT K c_PairError
  c_BadLast : Addr
  g_BadLast : mg "BadLast" = some (.ref c_BadLast)
  x_BadLast : ExcT K c_BadLast
  y_BadLast : ExcC K c_BadLast
  em_BadLast : PySem.W.exmOne K (.ref c_BadLast) (.ref c_PairError) = some true
  kv_BadLast : PySem.W.kitOne K (.ref c_BadLast) (.type "ValueError") = some true
  c_BadNumber : Addr
  g_BadNumber : mg "BadNumber" = some (.ref c_BadNumber)
  x_BadNumber : ExcT K c_BadNumber
  y_BadNumber : ExcC K c_BadNumber
  em_BadNumber : PySem.W.exmOne K (.ref c_BadNumber) (.ref c_PairError) = some true
  kv_BadNumber : PySem.W.kitOne K (.ref c_BadNumber) (.type "ValueError") = some true
  c_BadPlace : Addr
  g_BadPlace : mg "BadPlace" = some (.ref c_BadPlace)
  x_BadPlace : ExcT K c_BadPlace
  y_BadPlace : ExcC K c_BadPlace
  em_BadPlace : PySem.W.exmOne K (.ref c_BadPlace) (.ref c_PairError) = some true
  kv_BadPlace : PySem.W.kitOne K (.ref c_BadPlace) (.type "ValueError") = some true
  c_BadRow : Addr
  g_BadRow : mg "BadRow" = some (.ref c_BadRow)
  x_BadRow : ExcT K c_BadRow
  y_BadRow : ExcC K c_BadRow
  em_BadRow : PySem.W.exmOne K (.ref c_BadRow) (.ref c_PairError) = some true
  kv_BadRow : PySem.W.kitOne K (.ref c_BadRow) (.type "ValueError") = some true
  c_NoRow : Addr
  g_NoRow : mg "NoRow" = some (.ref c_NoRow)
  x_NoRow : ExcT K c_NoRow
  y_NoRow : ExcC K c_NoRow
  em_NoRow : PySem.W.exmOne K (.ref c_NoRow) (.ref c_PairError) = some true
  kv_NoRow : PySem.W.kitOne K (.ref c_NoRow) (.type "ValueError") = some true
  t_GREATEST : Tok
  c_GREATEST : mg "GREATEST" = some (.int 100 t_GREATEST)
  c_FIRSTS : Addr
  g_FIRSTS : mg "FIRSTS" = some (.ref c_FIRSTS)
  k_FIRSTS : Firsts K c_FIRSTS
  m_ValueError : mg "ValueError" = none
  m_abs : mg "abs" = none
  m_all : mg "all" = none
  m_any : mg "any" = none
  m_bool : mg "bool" = none
  m_enumerate : mg "enumerate" = none
  m_int : mg "int" = none
  m_isinstance : mg "isinstance" = none
  m_len : mg "len" = none
  m_list : mg "list" = none
  m_min : mg "min" = none
  m_range : mg "range" = none
  m_sorted : mg "sorted" = none
  m_sum : mg "sum" = none
  ke_BadLast_BadLast : PySem.W.kitOne K (.ref c_BadLast) (.ref c_BadLast) = some true
  ke_BadLast_BadNumber : PySem.W.kitOne K (.ref c_BadLast) (.ref c_BadNumber) = some false
  ke_BadLast_BadPlace : PySem.W.kitOne K (.ref c_BadLast) (.ref c_BadPlace) = some false
  ke_BadLast_BadRow : PySem.W.kitOne K (.ref c_BadLast) (.ref c_BadRow) = some false
  ke_BadLast_NoRow : PySem.W.kitOne K (.ref c_BadLast) (.ref c_NoRow) = some false
  ke_BadNumber_BadLast : PySem.W.kitOne K (.ref c_BadNumber) (.ref c_BadLast) = some false
  ke_BadNumber_BadNumber : PySem.W.kitOne K (.ref c_BadNumber) (.ref c_BadNumber) = some true
  ke_BadNumber_BadPlace : PySem.W.kitOne K (.ref c_BadNumber) (.ref c_BadPlace) = some false
  ke_BadNumber_BadRow : PySem.W.kitOne K (.ref c_BadNumber) (.ref c_BadRow) = some false
  ke_BadNumber_NoRow : PySem.W.kitOne K (.ref c_BadNumber) (.ref c_NoRow) = some false
  ke_BadPlace_BadLast : PySem.W.kitOne K (.ref c_BadPlace) (.ref c_BadLast) = some false
  ke_BadPlace_BadNumber : PySem.W.kitOne K (.ref c_BadPlace) (.ref c_BadNumber) = some false
  ke_BadPlace_BadPlace : PySem.W.kitOne K (.ref c_BadPlace) (.ref c_BadPlace) = some true
  ke_BadPlace_BadRow : PySem.W.kitOne K (.ref c_BadPlace) (.ref c_BadRow) = some false
  ke_BadPlace_NoRow : PySem.W.kitOne K (.ref c_BadPlace) (.ref c_NoRow) = some false
  ke_BadRow_BadLast : PySem.W.kitOne K (.ref c_BadRow) (.ref c_BadLast) = some false
  ke_BadRow_BadNumber : PySem.W.kitOne K (.ref c_BadRow) (.ref c_BadNumber) = some false
  ke_BadRow_BadPlace : PySem.W.kitOne K (.ref c_BadRow) (.ref c_BadPlace) = some false
  ke_BadRow_BadRow : PySem.W.kitOne K (.ref c_BadRow) (.ref c_BadRow) = some true
  ke_BadRow_NoRow : PySem.W.kitOne K (.ref c_BadRow) (.ref c_NoRow) = some false
  ke_NoRow_BadLast : PySem.W.kitOne K (.ref c_NoRow) (.ref c_BadLast) = some false
  ke_NoRow_BadNumber : PySem.W.kitOne K (.ref c_NoRow) (.ref c_BadNumber) = some false
  ke_NoRow_BadPlace : PySem.W.kitOne K (.ref c_NoRow) (.ref c_BadPlace) = some false
  ke_NoRow_BadRow : PySem.W.kitOne K (.ref c_NoRow) (.ref c_BadRow) = some false
  ke_NoRow_NoRow : PySem.W.kitOne K (.ref c_NoRow) (.ref c_NoRow) = some true
  kit_Can_Answer : PySem.W.kitOne K (.ref c_Can) (.ref c_Answer) = some true
  kit_Can_Can : PySem.W.kitOne K (.ref c_Can) (.ref c_Can) = some true
  kit_Can_Barred : PySem.W.kitOne K (.ref c_Can) (.ref c_Barred) = some false
  kit_Can_Good : PySem.W.kitOne K (.ref c_Can) (.ref c_Good) = some false
  kit_Can_Off : PySem.W.kitOne K (.ref c_Can) (.ref c_Off) = some false
  kit_Barred_Answer : PySem.W.kitOne K (.ref c_Barred) (.ref c_Answer) = some true
  kit_Barred_Can : PySem.W.kitOne K (.ref c_Barred) (.ref c_Can) = some false
  kit_Barred_Barred : PySem.W.kitOne K (.ref c_Barred) (.ref c_Barred) = some true
  kit_Barred_Good : PySem.W.kitOne K (.ref c_Barred) (.ref c_Good) = some false
  kit_Barred_Off : PySem.W.kitOne K (.ref c_Barred) (.ref c_Off) = some false
  kit_Good_Answer : PySem.W.kitOne K (.ref c_Good) (.ref c_Answer) = some true
  kit_Good_Can : PySem.W.kitOne K (.ref c_Good) (.ref c_Can) = some false
  kit_Good_Barred : PySem.W.kitOne K (.ref c_Good) (.ref c_Barred) = some false
  kit_Good_Good : PySem.W.kitOne K (.ref c_Good) (.ref c_Good) = some true
  kit_Good_Off : PySem.W.kitOne K (.ref c_Good) (.ref c_Off) = some false
  kit_Off_Answer : PySem.W.kitOne K (.ref c_Off) (.ref c_Answer) = some true
  kit_Off_Can : PySem.W.kitOne K (.ref c_Off) (.ref c_Can) = some false
  kit_Off_Barred : PySem.W.kitOne K (.ref c_Off) (.ref c_Barred) = some false
  kit_Off_Good : PySem.W.kitOne K (.ref c_Off) (.ref c_Good) = some false
  kit_Off_Off : PySem.W.kitOne K (.ref c_Off) (.ref c_Off) = some true
end PA

set_option Elab.async false
set_option linter.all false
set_option maxRecDepth 100000
set_option maxHeartbeats 4000000
namespace PA
open PySem PySem.Spec PyProof.Rows L2 Evl
/-- the walk through an expression -/
local macro_rules | `(tactic| walk_at "ev") => `(tactic| repeat' (first | (with_reducible exact ev_c) | (with_reducible refine' ev_var ?_) | (show _ = some (some _); rfl) | (with_reducible exact ea_nil) | (with_reducible refine' ea_cons ?_ ?_) | (with_reducible refine' ev_abs ?_) | (with_reducible refine' ev_op ?_ ?_ ?_) | (with_reducible exact rv_I0) | (exact rv_mulL (by decide)) | (exact rv_mulR (by decide)) | (exact rv_div (by decide)) | (exact rv_mod (by decide)) | (exact rv_pow (by decide)) | (with_reducible refine' ev_un ?_ ?_) | (with_reducible exact ru_neg) | (exact rv_eq rfl) | (exact rv_ne rfl) | (with_reducible refine' et_test ?_) | (with_reducible refine' et_B ?_) | (exact ev_c) | (exact rv_I0) | (exact ru_neg) | (exact ea_nil) | (refine' ea_cons ?_ ?_)))
section
variable {P : Program} {w : World} {K : PySem.W.Frag} {mg : Str → Option Value} {base : Heap}
/-! ### is_number -/
def sp_is_number (K : PySem.W.Frag) : Sp := fun vs H Q _ => ∃ v b, vs = [v] ∧ Num K H v b ∧ RetV (.bl b) H Q
theorem kit_num {K : PySem.W.Frag} {T : String} {b : Bool} (h : isNumT T = some b) : ∃ b1, PySem.W.kitOne K (.type T) (.type "int") = some b1 ∧ (b1 = false → b = false) ∧ (b1 = true → PySem.W.kitOne K (.type T) (.type "bool") = some (!b)) := by
  unfold isNumT at h
  split at h
  · rename_i e
    refine ⟨true, kit_ty e, (fun z => nomatch z), fun _ => kit_ty ?_⟩
    cases q : kitB T "bool" with
    | none => rw [q] at h; cases h
    | some c =>
      rw [q] at h
      have h2 : (!c) = b := Option.some.inj h
      rw [← h2, Bool.not_not]
  · rename_i e
    exact ⟨false, kit_ty e, fun _ => (Option.some.inj h).symm, fun z => nomatch z⟩
  · cases h
theorem ok_is_number (T : Tx K mg) : FnOk P w K mg base CX0 1 T.a_is_number T.d_is_number ["thing"] (sp_is_number K) := by
  refine T.F_is_number.ok sc_is_number (fun vs H Q E h => ?_) (fun cdv A outer s H vs Q E hr h => ?_)
  · obtain ⟨v, b, rfl, _⟩ := h
    rfl
  · obtain ⟨v, b, rfl, ⟨ty, ht, hn⟩, k⟩ := h
    refine ⟨_, (pss_one (ps_ret (pe_and (pe_callB (r := rIsi K) call_isi (by rfl) T.m_isinstance bt_isinstance (pa_cons (pv 0) (pa_cons (pe_bltn (v := .ty "int") (by rfl) T.m_int bt_int rfl) pa_nil))) (pe_one (pe_not (pe_callB (r := rIsi K) call_isi (by rfl) T.m_isinstance bt_isinstance (pa_cons (pv 0) (pa_cons (pe_bltn (v := .ty "bool") (by rfl) T.m_bool bt_bool rfl) pa_nil)))))))), ?_⟩
    obtain ⟨b1, h1, h2, h3⟩ := kit_num (K := K) hn
    have e : (b1 && !(!b)) = b := by
      cases b1 with
      | true => simp
      | false => rw [h2 rfl]; rfl
    refine s_ret (v := .bl b) (ev_is (v := .bl (b1 && !(!b))) (ev_andV (ev_isi (ea_cons (ev_var rfl) (ea_cons ev_c ea_nil)) (.ty "int") ht h1) fun z => ev_notV (ev_isi (ea_cons (ev_var rfl) (ea_cons ev_c ea_nil)) (.ty "bool") ht (h3 z))) (by rw [e])) k
theorem v_is_number {v : V} {b : Bool} {H : Hp} (h : Num K H v b) : SpV (sp_is_number K) [v] H (.bl b) := fun _ e _ q _ => ⟨v, b, rfl, h.ex e, q⟩
/-! ### asked_last -/
/-- no whole number, or one of which B holds -/
def BadV (K : PySem.W.Frag) (H : Hp) (v : V) (B : Int → Prop) : Prop := Num K H v false ∨ ∃ n, v = .int n ∧ B n
theorem BadV.ex {H H' : Hp} {v : V} {B : Int → Prop} (e : Ex H H') (h : BadV K H v B) : BadV K H' v B := by
  rcases h with h | h
  · exact .inl (h.ex e)
  · exact .inr h
/-- an error of the class at C leaves -/
def Err (C : Addr) (H : Hp) (E : XK) : Prop := ∀ H', Ex H H' → E (.ref C) none H'
theorem Err.ex {C : Addr} {H H' : Hp} {E : XK} (e : Ex H H') (h : Err C H E) : Err C H' E := fun H2 e2 => h H2 (e.trans e2)
def sp_asked_last (T : Tx K mg) : Sp := fun vs H Q E => ∃ v, vs = [v] ∧ ((∃ n, v = .int n ∧ 1 ≤ n ∧ RetV .non H Q) ∨ (BadV K H v (· < 1) ∧ Err T.c_BadLast H E))
theorem ok_asked_last (T : Tx K mg) : FnOk P w K mg base (L2N.CX P w) 2 T.a_asked_last T.d_asked_last ["last"] (sp_asked_last T) := by
  refine okXN T.F_asked_last sc_asked_last (fun vs H Q E h => ?_) (fun cdv A outer s H vs Q E hr h => ?_)
  · obtain ⟨v, rfl, _⟩ := h
    rfl
  · obtain ⟨v, rfl, h⟩ := h
    refine ⟨_, (pss_one (ps_if (PW.pt (pw_or (pt_not (pt_val (pe_call (ok_is_number T) (hr.mono (by decide)) (by rfl) T.g_is_number T.F_is_number.kp T.b_is_number .nil pass0 (pa_cons (pv 0) pa_nil)))) (pw_or1 (pt_cmpR op_lt (pv 0) pe_int (nomark _))))) (pss_one (L2N.ps_raise rfl (L2N.takes_of rfl rfl rfl rfl) (L2N.pmk_own PySem.F.excBase_ValueError T.x_BadLast.ex T.g_BadLast T.x_BadLast.kp (raises_own T.x_BadLast.sb T.x_BadLast.ty) (by rfl)))) pss_nil)), ?_⟩
    rcases h with ⟨n, rfl, hn, k⟩ | ⟨hb, k⟩
    · refine s_when (b := false) (et_is (et_or (et_not (et_B (ev_call (ea_cons (ev_var rfl) ea_nil) (v_is_number (Num.int n))))) fun _ => et_test (ev_op (ev_var rfl) ev_c rv_I0)) ?_) (fun z => nomatch z) fun _ H1 e1 => k H1 e1
      simp only [Bool.not_true, Bool.false_or, decide_eq_false_iff_not]
      omega
    · rcases hb with hb | ⟨n, rfl, hn⟩
      · exact s_when (b := true) (et_is (a := !false || true) (et_or (et_not (et_B (ev_call (ea_cons (ev_var rfl) ea_nil) (v_is_number hb)))) fun z => nomatch z) rfl) (fun _ H1 e1 => k H1 e1) (fun z => nomatch z)
      · refine s_when (b := true) (et_is (et_or (et_not (et_B (ev_call (ea_cons (ev_var rfl) ea_nil) (v_is_number (Num.int n))))) fun _ => et_test (ev_op (ev_var rfl) ev_c rv_I0)) ?_) (fun _ H1 e1 => k H1 e1) (fun z => nomatch z)
        simp only [Bool.not_true, Bool.false_or, decide_eq_true_eq]
        exact hn
theorem v_asked_last {T : Tx K mg} {n : Int} {H : Hp} (h : 1 ≤ n) : SpV (sp_asked_last T) [.int n] H .non := fun _ _ _ q _ => ⟨_, rfl, .inl ⟨n, rfl, h, q⟩⟩
/-! ### asked_row -/
/-- what is wrong with a last number -/
def LastX (T : Tx K mg) (v : V) (H : Hp) (E : XK) : Prop := (BadV K H v (· < 1) ∧ Err T.c_BadLast H E) ∨ ∃ n, v = .int n ∧ 1 ≤ n ∧ 1 < n % 4 ∧ Err T.c_NoRow H E
theorem LastX.ex {T : Tx K mg} {v : V} {H H' : Hp} {E : XK} (e : Ex H H') (h : LastX T v H E) : LastX T v H' E := by
  rcases h with ⟨a, b⟩ | ⟨n, a, b, c, d⟩
  · exact .inl ⟨a.ex e, b.ex e⟩
  · exact .inr ⟨n, a, b, c, d.ex e⟩
def sp_asked_row (T : Tx K mg) : Sp := fun vs H Q E => ∃ v, vs = [v] ∧ ((∃ n, v = .int n ∧ Can n ∧ RetV .non H Q) ∨ LastX T v H E)
theorem ok_asked_row (T : Tx K mg) : FnOk P w K mg base (L2N.CX P w) 3 T.a_asked_row T.d_asked_row ["last"] (sp_asked_row T) := by
  refine okXN T.F_asked_row sc_asked_row (fun vs H Q E h => ?_) (fun cdv A outer s H vs Q E hr h => ?_)
  · obtain ⟨v, rfl, _⟩ := h
    rfl
  · obtain ⟨v, rfl, h⟩ := h
    refine ⟨_, (pss_cons (ps_expr (pe_call (ok_asked_last T) (hr.mono (by decide)) (by rfl) T.g_asked_last T.F_asked_last.kp T.b_asked_last .nil (L2N.passes_call (L2N.takes_of rfl rfl rfl rfl) (fun _ _ _ _ h => h)) (pa_cons (pv 0) pa_nil)))
      (pss_one (ps_if (pt_cmpR op_gt (pe_op op_mod (pv 0) pe_int) pe_int (nomark _)) (pss_one (L2N.ps_raise rfl (L2N.takes_of rfl rfl rfl rfl) (L2N.pmk_own PySem.F.excBase_ValueError T.x_NoRow.ex T.g_NoRow T.x_NoRow.kp (raises_own T.x_NoRow.sb T.x_NoRow.ty) (by rfl)))) pss_nil))), ?_⟩
    rcases h with ⟨n, rfl, hn, k⟩ | ⟨hb, k⟩ | ⟨n, rfl, h1, h4, k⟩
    · refine q_drop (ev_call (ea_cons (ev_var rfl) ea_nil) (v_asked_last (T := T) hn.1)) fun H1 e1 => ?_
      refine s_when (b := false) (et_is (b := false) (by walk_at "ev") ?_) (fun z => nomatch z) fun _ H2 e2 => k H2 (e1.trans e2)
      have := hn.2
      simp only [decide_eq_false_iff_not]
      omega
    · exact ⟨_, rfl, _, rfl, .inr ⟨hb, k⟩⟩
    · refine q_drop (ev_call (ea_cons (ev_var rfl) ea_nil) (v_asked_last (T := T) h1)) fun H1 e1 => ?_
      refine s_when (b := true) (et_is (b := true) (by walk_at "ev") ?_) (fun _ H2 e2 => k H2 (e1.trans e2)) (fun z => nomatch z)
      simp only [decide_eq_true_eq]
      exact h4
/-! ### first_by_fours, first_by_ones -/
def sp_first_by_fours : Sp := fun vs H Q _ => ∃ p n : Int, vs = [.int p, .int n] ∧ 2 ≤ p ∧ RetV (.int (f4 p n)) H Q
def tab4 (p : Int) : List (Key × V) := mergeK [] [(Sum.inl (4 * p - 1), .int (2 * p + 1)), (Sum.inl 1, .int p), (Sum.inl (2 * p + 1), .int (p - 1)), (Sum.inl (2 * p - 1), .int (2 * p))]
def tab1 (p : Int) : List (Key × V) := mergeK [] [(Sum.inl (4 * p + 1), .int (2 * p + 1)), (Sum.inl 1, .int (p + 1)), (Sum.inl (2 * p - 1), .int (2 * p + 2))]
theorem key_ne {a b : Int} (h : a ≠ b) : ¬ (Sum.inl a : Key) = Sum.inl b := fun z => h (Sum.inl.inj z)
theorem tab4_val (p n : Int) (hp : 2 ≤ p) (ho : n % 2 ≠ 0) : (valV (tab4 p) (Sum.inl n) = some (.int (f4 p n))) ∨ (valV (tab4 p) (Sum.inl n) = none ∧ f4 p n = if 2 * p + 1 < n then (4 * p - 1 - n) / 2 else p + 1 + (2 * p - 1 - n) / 2) := by
  have e : valV (tab4 p) (Sum.inl n) = if (Sum.inl n : Key) = Sum.inl (2 * p - 1) then some (.int (2 * p)) else if (Sum.inl n : Key) = Sum.inl (2 * p + 1) then some (.int (p - 1)) else if (Sum.inl n : Key) = Sum.inl 1 then some (.int p) else if (Sum.inl n : Key) = Sum.inl (4 * p - 1) then some (.int (2 * p + 1)) else none := by
    show valV (putK (putK (putK (putK [] _ _) _ _) _ _) _ _) _ = _
    rw [valV_put, valV_put, valV_put, valV_put]
    rfl
  rw [e]
  unfold f4
  rw [if_neg ho]
  by_cases b : n = 4 * p - 1
  · rw [if_pos b, if_neg (key_ne (by omega)), if_neg (key_ne (by omega)), if_neg (key_ne (by omega)), if_pos (by rw [b])]
    exact .inl rfl
  rw [if_neg b]
  by_cases c : n = 1
  · rw [if_pos c, if_neg (key_ne (by omega)), if_neg (key_ne (by omega)), if_pos (by rw [c])]
    exact .inl rfl
  rw [if_neg c]
  by_cases d : n = 2 * p + 1
  · rw [if_pos d, if_neg (key_ne (by omega)), if_pos (by rw [d])]
    exact .inl rfl
  rw [if_neg d]
  by_cases f : n = 2 * p - 1
  · rw [if_pos f, if_pos (by rw [f])]
    exact .inl rfl
  rw [if_neg f, if_neg (key_ne f), if_neg (key_ne d), if_neg (key_ne c), if_neg (key_ne b)]
  exact .inr ⟨rfl, rfl⟩
theorem tab1_val (p n : Int) (hp : 2 ≤ p) (ho : n % 2 ≠ 0) : (valV (tab1 p) (Sum.inl n) = some (.int (f1 p n))) ∨ (valV (tab1 p) (Sum.inl n) = none ∧ f1 p n = if 2 * p < n then (4 * p + 1 - n) / 2 else p + 2 + (2 * p - 1 - n) / 2) := by
  have e : valV (tab1 p) (Sum.inl n) = if (Sum.inl n : Key) = Sum.inl (2 * p - 1) then some (.int (2 * p + 2)) else if (Sum.inl n : Key) = Sum.inl 1 then some (.int (p + 1)) else if (Sum.inl n : Key) = Sum.inl (4 * p + 1) then some (.int (2 * p + 1)) else none := by
    show valV (putK (putK (putK [] _ _) _ _) _ _) _ = _
    rw [valV_put, valV_put, valV_put]
    rfl
  rw [e]
  unfold f1
  rw [if_neg ho]
  by_cases b : n = 4 * p + 1
  · rw [if_pos b, if_neg (key_ne (by omega)), if_neg (key_ne (by omega)), if_pos (by rw [b])]
    exact .inl rfl
  rw [if_neg b]
  by_cases c : n = 1
  · rw [if_pos c, if_neg (key_ne (by omega)), if_pos (by rw [c])]
    exact .inl rfl
  rw [if_neg c]
  by_cases f : n = 2 * p - 1
  · rw [if_pos f, if_pos (by rw [f])]
    exact .inl rfl
  rw [if_neg f, if_neg (key_ne f), if_neg (key_ne c), if_neg (key_ne b)]
  exact .inr ⟨rfl, rfl⟩
theorem ok_first_by_fours (T : Tx K mg) : FnOk P w K mg base CX0 1 T.a_first_by_fours T.d_first_by_fours ["part", "number"] sp_first_by_fours := by
  refine T.F_first_by_fours.ok sc_first_by_fours (fun vs H Q E h => ?_) (fun cdv A outer s H vs Q E hr h => ?_)
  · obtain ⟨p, n, rfl, _⟩ := h
    rfl
  · obtain ⟨p, n, rfl, hp, k⟩ := h
    have hu := hu_of hr
    refine ⟨_, (pss_cons (ps_if (pt_cmpR op_eq (pe_op op_mod (pv 1) pe_int) pe_int (nomark _)) (pss_one (ps_ret (pe_op op_sub (pe_op op_mul pe_int (pv 0)) (pe_op op_fdiv (pv 1) pe_int)))) pss_nil)
      (pss_cons (ps_set (i := 2) sc_first_by_fours.nd rfl (.inl rfl) (pe_disp (pps_cons (pe_op op_sub (pe_op op_mul pe_int (pv 0)) pe_int) (pe_op op_add (pe_op op_mul pe_int (pv 0)) pe_int) (pps_cons pe_int (pv 0) (pps_cons (pe_op op_add (pe_op op_mul pe_int (pv 0)) pe_int) (pe_op op_sub (pv 0) pe_int) (pps_cons (pe_op op_sub (pe_op op_mul pe_int (pv 0)) pe_int) (pe_op op_mul pe_int (pv 0)) pps_nil)))) (by rfl) (by rfl) (fun z => by cases z) (by decide)))
      (pss_cons (ps_if (pt_cmp (pc_din hu (pv 1) (pv 2))) (pss_one (ps_ret (pe_dget hu (pv 2) (pv 1) (fun _ _ => rfl)))) pss_nil)
      (pss_cons (ps_if (pt_cmpR op_gt (pv 1) (pe_op op_add (pe_op op_mul pe_int (pv 0)) pe_int) (nomark _)) (pss_one (ps_ret (pe_op op_fdiv (pe_op op_sub (pe_op op_sub (pe_op op_mul pe_int (pv 0)) pe_int) (pv 1)) pe_int))) pss_nil)
      (pss_one (ps_ret (pe_op op_add (pe_op op_add (pv 0) pe_int) (pe_op op_fdiv (pe_op op_sub (pe_op op_sub (pe_op op_mul pe_int (pv 0)) pe_int) (pv 1)) pe_int)))))))), ?_⟩
    refine q_when (by walk_at "ev") (fun z H1 e1 => ?_) fun z H1 e1 => ?_
    · have z0 : n % 2 = 0 := V.int.inj (of_decide_eq_true z)
      have e : f4 p n = 6 * p - n / 2 := if_pos z0
      rw [e] at k
      exact s_ret (by walk_at "ev") fun H2 e2 => k H2 (e1.trans e2)
    · have ho : n % 2 ≠ 0 := fun y => (of_decide_eq_false z) (by rw [y])
      refine q_asgD (kvs := [(Sum.inl (4 * p - 1), .int (2 * p + 1)), (Sum.inl 1, .int p), (Sum.inl (2 * p + 1), .int (p - 1)), (Sum.inl (2 * p - 1), .int (2 * p))]) (ep_cons (by walk_at "ev") (by walk_at "ev") (ep_cons (by walk_at "ev") (by walk_at "ev") (ep_cons (by walk_at "ev") (by walk_at "ev") (ep_cons (by walk_at "ev") (by walk_at "ev") ep_nil)))) (show 4 ≤ 15 by decide) fun d H2 hd e2 h2 => ?_
      have h2 : H2 d = some (.dK (tab4 p)) := h2
      rcases tab4_val p n hp ho with hv | ⟨hv, ef⟩
      · refine q_when (b := true) (et_is (et_din h2 (ev_var rfl) (ev_var rfl)) (by rw [hv] <;> rfl)) (fun _ H3 e3 => s_ret (ev_dget (e3 _ _ h2) (ev_var rfl) (ev_var rfl) hv) fun H4 e4 => k H4 (((e1.trans e2).trans e3).trans e4)) (fun z => nomatch z)
      · refine q_when (b := false) (et_is (et_din h2 (ev_var rfl) (ev_var rfl)) (by rw [hv] <;> rfl)) (fun z => nomatch z) fun _ H3 e3 => ?_
        rw [ef] at k
        refine q_when (by walk_at "ev") (fun z H4 e4 => ?_) fun z H4 e4 => ?_
        · rw [if_pos (of_decide_eq_true z)] at k
          exact s_ret (by walk_at "ev") fun H5 e5 => k H5 ((((e1.trans e2).trans e3).trans e4).trans e5)
        · rw [if_neg (of_decide_eq_false z)] at k
          exact s_ret (by walk_at "ev") fun H5 e5 => k H5 ((((e1.trans e2).trans e3).trans e4).trans e5)
theorem v_first_by_fours {p n : Int} {H : Hp} (h : 2 ≤ p) : SpV sp_first_by_fours [.int p, .int n] H (.int (f4 p n)) := fun _ _ _ q _ => ⟨p, n, rfl, h, q⟩
def sp_first_by_ones : Sp := fun vs H Q _ => ∃ p n : Int, vs = [.int p, .int n] ∧ 2 ≤ p ∧ RetV (.int (f1 p n)) H Q
theorem ok_first_by_ones (T : Tx K mg) : FnOk P w K mg base CX0 1 T.a_first_by_ones T.d_first_by_ones ["part", "number"] sp_first_by_ones := by
  refine T.F_first_by_ones.ok sc_first_by_ones (fun vs H Q E h => ?_) (fun cdv A outer s H vs Q E hr h => ?_)
  · obtain ⟨p, n, rfl, _⟩ := h
    rfl
  · obtain ⟨p, n, rfl, hp, k⟩ := h
    have hu := hu_of hr
    refine ⟨_, (pss_cons (ps_if (pt_cmpR op_eq (pe_op op_mod (pv 1) pe_int) pe_int (nomark _)) (pss_one (ps_ret (pe_op op_sub (pe_op op_add (pe_op op_mul pe_int (pv 0)) pe_int) (pe_op op_fdiv (pv 1) pe_int)))) pss_nil)
      (pss_cons (ps_set (i := 2) sc_first_by_ones.nd rfl (.inl rfl) (pe_disp (pps_cons (pe_op op_add (pe_op op_mul pe_int (pv 0)) pe_int) (pe_op op_add (pe_op op_mul pe_int (pv 0)) pe_int) (pps_cons pe_int (pe_op op_add (pv 0) pe_int) (pps_cons (pe_op op_sub (pe_op op_mul pe_int (pv 0)) pe_int) (pe_op op_add (pe_op op_mul pe_int (pv 0)) pe_int) pps_nil))) (by rfl) (by rfl) (fun z => by cases z) (by decide)))
      (pss_cons (ps_if (pt_cmp (pc_din hu (pv 1) (pv 2))) (pss_one (ps_ret (pe_dget hu (pv 2) (pv 1) (fun _ _ => rfl)))) pss_nil)
      (pss_cons (ps_if (pt_cmpR op_gt (pv 1) (pe_op op_mul pe_int (pv 0)) (nomark _)) (pss_one (ps_ret (pe_op op_fdiv (pe_op op_sub (pe_op op_add (pe_op op_mul pe_int (pv 0)) pe_int) (pv 1)) pe_int))) pss_nil)
      (pss_one (ps_ret (pe_op op_add (pe_op op_add (pv 0) pe_int) (pe_op op_fdiv (pe_op op_sub (pe_op op_sub (pe_op op_mul pe_int (pv 0)) pe_int) (pv 1)) pe_int)))))))), ?_⟩
    refine q_when (by walk_at "ev") (fun z H1 e1 => ?_) fun z H1 e1 => ?_
    · have z0 : n % 2 = 0 := V.int.inj (of_decide_eq_true z)
      have e : f1 p n = 6 * p + 2 - n / 2 := if_pos z0
      rw [e] at k
      exact s_ret (by walk_at "ev") fun H2 e2 => k H2 (e1.trans e2)
    · have ho : n % 2 ≠ 0 := fun y => (of_decide_eq_false z) (by rw [y])
      refine q_asgD (kvs := [(Sum.inl (4 * p + 1), .int (2 * p + 1)), (Sum.inl 1, .int (p + 1)), (Sum.inl (2 * p - 1), .int (2 * p + 2))]) (ep_cons (by walk_at "ev") (by walk_at "ev") (ep_cons (by walk_at "ev") (by walk_at "ev") (ep_cons (by walk_at "ev") (by walk_at "ev") ep_nil))) (show 3 ≤ 15 by decide) fun d H2 hd e2 h2 => ?_
      have h2 : H2 d = some (.dK (tab1 p)) := h2
      rcases tab1_val p n hp ho with hv | ⟨hv, ef⟩
      · refine q_when (b := true) (et_is (et_din h2 (ev_var rfl) (ev_var rfl)) (by rw [hv] <;> rfl)) (fun _ H3 e3 => s_ret (ev_dget (e3 _ _ h2) (ev_var rfl) (ev_var rfl) hv) fun H4 e4 => k H4 (((e1.trans e2).trans e3).trans e4)) (fun z => nomatch z)
      · refine q_when (b := false) (et_is (et_din h2 (ev_var rfl) (ev_var rfl)) (by rw [hv] <;> rfl)) (fun z => nomatch z) fun _ H3 e3 => ?_
        rw [ef] at k
        refine q_when (by walk_at "ev") (fun z H4 e4 => ?_) fun z H4 e4 => ?_
        · rw [if_pos (of_decide_eq_true z)] at k
          exact s_ret (by walk_at "ev") fun H5 e5 => k H5 ((((e1.trans e2).trans e3).trans e4).trans e5)
        · rw [if_neg (of_decide_eq_false z)] at k
          exact s_ret (by walk_at "ev") fun H5 e5 => k H5 ((((e1.trans e2).trans e3).trans e4).trans e5)
theorem v_first_by_ones {p n : Int} {H : Hp} (h : 2 ≤ p) : SpV sp_first_by_ones [.int p, .int n] H (.int (f1 p n)) := fun _ _ _ q _ => ⟨p, n, rfl, h, q⟩
/-! ### first_of, both -/
def sp_first_of : Sp := fun vs H Q _ => ∃ l n : Int, vs = [.int l, .int n] ∧ Can l ∧ 1 ≤ n ∧ n ≤ l ∧ RetV (.int (fst l n)) H Q
theorem small_at {l n : Int} (hl : l = 1 ∨ l = 4 ∨ l = 5) (h1 : 1 ≤ n) (h2 : n ≤ l) : atI ((small l).map V.int) (n - 1) = some (.int ((small l).getD (n - 1).toNat 0)) := by
  have hlen : (n - 1).toNat < (small l).length := by
    rcases hl with rfl | rfl | rfl
    · show _ < 1; omega
    · show _ < 4; omega
    · show _ < 5; omega
  refine at_of (j := (n - 1).toNat) (by omega) ?_
  rw [List.getElem?_map, List.getElem?_eq_getElem hlen, List.getD_eq_getElem?_getD, List.getElem?_eq_getElem hlen]
  rfl
theorem ok_first_of (T : Tx K mg) : FnOk P w K mg base CX0 2 T.a_first_of T.d_first_of ["last", "number"] sp_first_of := by
  refine T.F_first_of.ok sc_first_of (fun vs H Q E h => ?_) (fun cdv A outer s H vs Q E hr h => ?_)
  · obtain ⟨l, n, rfl, _⟩ := h
    rfl
  · obtain ⟨l, n, rfl, hl, h1, h2, k⟩ := h
    refine ⟨_, (pss_cons (ps_if (pt_cmpR op_lt (pv 0) pe_int (nomark _)) (pss_one (ps_ret (pe_op op_sub (pe_ix (r := rIxT K) ix_tup (pe_ix (r := rIxI K) ix_kint (pe_glob (v := .ref T.c_FIRSTS) (by rfl) T.g_FIRSTS rfl) (pv 0) (fun _ _ => rfl)) (pe_op op_sub (pv 1) pe_int) (fun _ _ => rfl)) pe_int))) pss_nil)
      (pss_cons (ps_if (pt_cmpR op_eq (pe_op op_mod (pv 0) pe_int) pe_int (nomark _)) (pss_one (ps_ret (pe_op op_sub (pe_call (ok_first_by_fours T) (hr.mono (by decide)) (by rfl) T.g_first_by_fours T.F_first_by_fours.kp T.b_first_by_fours .nil pass0 (pa_cons (pe_op op_fdiv (pv 0) pe_int) (pa_cons (pv 1) pa_nil))) pe_int))) pss_nil)
      (pss_one (ps_ret (pe_op op_sub (pe_call (ok_first_by_ones T) (hr.mono (by decide)) (by rfl) T.g_first_by_ones T.F_first_by_ones.kp T.b_first_by_ones .nil pass0 (pa_cons (pe_op op_fdiv (pv 0) pe_int) (pa_cons (pv 1) pa_nil))) pe_int))))), ?_⟩
    unfold fst at k
    refine q_when (by walk_at "ev") (fun z H1 e1 => ?_) fun z H1 e1 => ?_
    · have z0 : l < 6 := of_decide_eq_true z
      rw [if_pos z0] at k
      have hs : l = 1 ∨ l = 4 ∨ l = 5 := by
        have := hl.1
        have := hl.2
        omega
      obtain ⟨a, ha, ht⟩ := T.k_FIRSTS l hs
      exact s_ret (ev_op (ev_op (ev_op ev_c (ev_var rfl) (rv_kint ha)) (by walk_at "ev") (rv_ixT (ht H1) (small_at hs h1 h2))) ev_c rv_I0) fun H2 e2 => k H2 (e1.trans e2)
    · have z0 : ¬ l < 6 := of_decide_eq_false z
      rw [if_neg z0] at k
      have := hl.2
      refine q_when (by walk_at "ev") (fun z H2 e2 => ?_) fun z H2 e2 => ?_
      · rw [if_pos (V.int.inj (of_decide_eq_true z))] at k
        exact s_ret (ev_op (ev_call (vs := [.int (l / 4), .int n]) (by walk_at "ev") (v_first_by_fours (by omega))) ev_c rv_I0) fun H3 e3 => k H3 ((e1.trans e2).trans e3)
      · rw [if_neg (fun y => (of_decide_eq_false z) (by rw [y]))] at k
        exact s_ret (ev_op (ev_call (vs := [.int (l / 4), .int n]) (by walk_at "ev") (v_first_by_ones (by omega))) ev_c rv_I0) fun H3 e3 => k H3 ((e1.trans e2).trans e3)
theorem v_first_of {l n : Int} {H : Hp} (h : Can l) (h1 : 1 ≤ n) (h2 : n ≤ l) : SpV sp_first_of [.int l, .int n] H (.int (fst l n)) := fun _ _ _ q _ => ⟨l, n, rfl, h, h1, h2, q⟩
def sp_both : Sp := fun vs H Q _ => ∃ l n : Int, vs = [.int l, .int n] ∧ Can l ∧ 1 ≤ n ∧ n ≤ l ∧ RetU [.int (fst l n), .int (fst l n + n)] H Q
theorem ok_both (T : Tx K mg) : FnOk P w K mg base CX0 3 T.a_both T.d_both ["last", "number"] sp_both := by
  refine T.F_both.ok sc_both (fun vs H Q E h => ?_) (fun cdv A outer s H vs Q E hr h => ?_)
  · obtain ⟨l, n, rfl, _⟩ := h
    rfl
  · obtain ⟨l, n, rfl, hl, h1, h2, k⟩ := h
    refine ⟨_, (pss_cons (ps_set (i := 2) sc_both.nd rfl (.inl rfl) (pe_call (ok_first_of T) (hr.mono (by decide)) (by rfl) T.g_first_of T.F_first_of.kp T.b_first_of .nil pass0 (pa_cons (pv 0) (pa_cons (pv 1) pa_nil))))
      (pss_one (ps_ret (pe_tup (pa_cons (pv 2) (pa_cons (pe_op op_add (pv 2) (pv 1)) pa_nil)))))), ?_⟩
    refine q_asg (ev_call (by walk_at "ev") (v_first_of hl h1 h2)) fun H1 e1 => ?_
    exact s_retU (eu_tup (by walk_at "ev") (by show 2 ≤ 100000; decide)) fun p H2 hp e2 h2 => k.go e1 hp e2 h2
theorem v_both {l n : Int} {H : Hp} (h : Can l) (h1 : 1 ≤ n) (h2 : n ≤ l) : SpU sp_both [.int l, .int n] H [.int (fst l n), .int (fst l n + n)] := fun _ _ _ q _ => ⟨l, n, rfl, h, h1, h2, q⟩
/-! ### places_of -/
theorem v_asked_row {T : Tx K mg} {n : Int} {H : Hp} (h : Can n) : SpV (sp_asked_row T) [.int n] H .non := fun _ _ _ q _ => ⟨_, rfl, .inl ⟨n, rfl, h, q⟩⟩
def sp_places_of (T : Tx K mg) : Sp := fun vs H Q E => ∃ v u, vs = [v, u] ∧ ((∃ l n : Int, v = .int l ∧ u = .int n ∧ Can l ∧ 1 ≤ n ∧ n ≤ l ∧ RetU [.int (fst l n), .int (fst l n + n)] H Q) ∨ LastX T v H E ∨
  ∃ l : Int, v = .int l ∧ Can l ∧ BadV K H u (fun n => n < 1 ∨ l < n) ∧ Err T.c_BadNumber H E)
theorem ok_places_of (T : Tx K mg) : FnOk P w K mg base (L2N.CX P w) 4 T.a_places_of T.d_places_of ["last", "number"] (sp_places_of T) := by
  refine okXN T.F_places_of sc_places_of (fun vs H Q E h => ?_) (fun cdv A outer s H vs Q E hr h => ?_)
  · obtain ⟨v, u, rfl, _⟩ := h
    rfl
  · obtain ⟨v, u, rfl, h⟩ := h
    refine ⟨_, (pss_cons (ps_expr (pe_call (ok_asked_row T) (hr.mono (by decide)) (by rfl) T.g_asked_row T.F_asked_row.kp T.b_asked_row .nil (L2N.passes_call (L2N.takes_of rfl rfl rfl rfl) (fun _ _ _ _ h => h)) (pa_cons (pv 0) pa_nil)))
      (pss_cons (ps_if (PW.pt (pw_or (pt_not (pt_val (pe_call (ok_is_number T) (hr.mono (by decide)) (by rfl) T.g_is_number T.F_is_number.kp T.b_is_number .nil pass0 (pa_cons (pv 1) pa_nil)))) (pw_or1 (pt_not (pt_chain op_le op_le pe_int (pv 1) (pv 0)))))) (pss_one (L2N.ps_raise rfl (L2N.takes_of rfl rfl rfl rfl) (L2N.pmk_own PySem.F.excBase_ValueError T.x_BadNumber.ex T.g_BadNumber T.x_BadNumber.kp (raises_own T.x_BadNumber.sb T.x_BadNumber.ty) (by rfl)))) pss_nil)
      (pss_one (ps_ret (pe_call (ok_both T) (hr.mono (by decide)) (by rfl) T.g_both T.F_both.kp T.b_both .nil pass0 (pa_cons (pv 0) (pa_cons (pv 1) pa_nil))))))), ?_⟩
    rcases h with ⟨l, n, rfl, rfl, hl, h1, h2, k⟩ | hx | ⟨l, rfl, hl, hb, k⟩
    · refine q_drop (ev_call (ea_cons (ev_var rfl) ea_nil) (v_asked_row (T := T) hl)) fun H1 e1 => ?_
      refine q_when (b := false) (et_is (et_or (et_not (et_B (ev_call (ea_cons (ev_var rfl) ea_nil) (v_is_number (Num.int n))))) fun _ => et_not (et_test (ev_chain ev_c (ev_var rfl) rv_I0 (fun _ => ev_var rfl) fun _ => rv_I0))) ?_) (fun z => nomatch z) fun _ H2 e2 => ?_
      · rw [decide_eq_true h1, decide_eq_true h2]
        rfl
      · exact s_retU (eu_call (by walk_at "ev") (v_both hl h1 h2)) fun p H3 hp e3 h3 => k.go (e1.trans e2) hp e3 h3
    · exact ⟨_, rfl, _, rfl, .inr hx⟩
    · refine q_drop (ev_call (ea_cons (ev_var rfl) ea_nil) (v_asked_row (T := T) hl)) fun H1 e1 => ?_
      rcases hb with hb | ⟨n, rfl, hn⟩
      · exact q_when (b := true) (et_is (a := !false || true) (et_or (et_not (et_B (ev_call (ea_cons (ev_var rfl) ea_nil) (v_is_number (hb.ex e1))))) fun z => nomatch z) rfl) (fun _ H2 e2 => k H2 (e1.trans e2)) (fun z => nomatch z)
      · refine q_when (b := true) (et_is (et_or (et_not (et_B (ev_call (ea_cons (ev_var rfl) ea_nil) (v_is_number (Num.int n))))) fun _ => et_not (et_test (ev_chain ev_c (ev_var rfl) rv_I0 (fun _ => ev_var rfl) fun _ => rv_I0))) ?_) (fun _ H2 e2 => k H2 (e1.trans e2)) (fun z => nomatch z)
        simp only [Bool.not_true, Bool.false_or, Bool.not_eq_true', Bool.and_eq_false_iff, decide_eq_false_iff_not]
        omega
theorem v_places_of {T : Tx K mg} {l n : Int} {H : Hp} (h : Can l) (h1 : 1 ≤ n) (h2 : n ≤ l) : SpU (sp_places_of T) [.int l, .int n] H [.int (fst l n), .int (fst l n + n)] := fun _ _ _ q _ => ⟨_, _, rfl, .inl ⟨l, n, rfl, rfl, h, h1, h2, q⟩⟩
/-! ### at_place -/
def sp_at_place : Sp := fun vs H Q _ => ∃ l q : Int, vs = [.int l, .int q] ∧ Can l ∧ 0 ≤ q ∧ q < 2 * l ∧ RetV (.int (num l q)) H Q
theorem et_cand {T : Tx K mg} {σ : L2.St} {H : Hp} {l q n : Int} {E : XK} (hl : Can l) (h0 : σ[0]? = some (some (.int l))) (h1 : σ[1]? = some (some (.int q))) (h7 : σ[7]? = some (some (.int n))) :
    EvT (tAnd (tTest (tChain (rI0 fun i j => .bl (decide (i ≤ j))) (rI0 fun i j => .bl (decide (i ≤ j))) (tC (.int 1)) (tVar 7) (tVar 0))) (tTest (tOp (rIn K false) (tVar 1) (tCall sp_both [] E (tCons (tVar 0) (tCons (tVar 7) tNil)))))) σ H (decide (At l q n)) := by
  by_cases hn : 1 ≤ n ∧ n ≤ l
  · refine et_is (et_and (et_test (ev_chain ev_c (ev_var h7) rv_I0 (fun _ => ev_var h0) fun _ => rv_I0)) fun _ => et_test (ev_inU (ev_var h1) (eu_call (ea_cons (ev_var h0) (ea_cons (ev_var h7) ea_nil)) (v_both hl hn.1 hn.2)) rfl rfl)) ?_
    rw [inV_pair, decide_eq_true hn.1, decide_eq_true hn.2]
    show decide _ = decide _
    refine decide_eq_decide.mpr ⟨fun z => ⟨hn, z⟩, fun z => z.2⟩
  · refine et_is (et_and (b := true) (et_test (ev_chain ev_c (ev_var h7) rv_I0 (fun _ => ev_var h0) fun _ => rv_I0)) fun z => ?_) ?_
    · simp only [Bool.and_eq_true, decide_eq_true_eq] at z
      exact absurd z hn
    · rw [decide_eq_false (p := At l q n) fun z => hn z.1, Bool.and_true, ← Bool.decide_and]
      exact decide_eq_false hn
theorem ok_at_place (T : Tx K mg) : FnOk P w K mg base CX0 4 T.a_at_place T.d_at_place ["last", "place"] sp_at_place := by
  refine T.F_at_place.ok sc_at_place (fun vs H Q E h => ?_) (fun cdv A outer s H vs Q E hr h => ?_)
  · obtain ⟨l, q, rfl, _⟩ := h
    rfl
  · obtain ⟨l, q, rfl, hl, h1, h2, k⟩ := h
    refine ⟨_, (pss_cons (ps_set (i := 2) sc_at_place.nd rfl (.inl rfl) (pe_op op_fdiv (pv 0) pe_int))
      (pss_cons (ps_set (i := 3) sc_at_place.nd rfl (.inl rfl) (pe_op op_add (pe_op op_mul pe_int (pv 2)) (pe_op op_mul pe_int (pe_op op_mod (pv 0) pe_int))))
      (pss_cons (ps_set (i := 4) sc_at_place.nd rfl (.inl rfl) (pe_op op_add (pv 1) pe_int))
      (pss_cons (ps_set (i := 5) sc_at_place.nd rfl (.inl rfl) (pe_lst (pa_cons (pe_op op_mul pe_int (pe_callB call_abs (by rfl) T.m_abs bt_abs (pa_cons (pe_op op_sub (pv 4) (pv 3)) pa_nil))) (pa_cons pe_int (pa_cons pe_int (pa_cons pe_int (pa_cons pe_int (pa_cons pe_int (pa_cons (pe_op op_sub (pe_op op_mul pe_int (pv 2)) pe_int) (pa_cons (pe_op op_add (pe_op op_mul pe_int (pv 2)) pe_int) (pa_cons (pe_op op_sub (pe_op op_mul pe_int (pv 2)) pe_int) (pa_cons (pe_op op_add (pe_op op_mul pe_int (pv 2)) pe_int) pa_nil))))))))))))
      (pss_cons (ps_for PassesOwn.never rfl (pi_tup (pe_tup (pa_cons (pe_un un_neg pe_int) (pa_cons pe_int (pa_cons pe_int pa_nil))))) (pg_name (i := 6) sc_at_place.nd rfl (Or.inl rfl))
      (pss_one (ps_expr (pe_bm PySem.F.plainAttrs_list PySem.F.slot_list_extend PySem.F.type_list_extend mt_extend (pv 5) (pa_cons (pe_lst (pa_cons (pe_op op_sub (pe_op op_add (pe_op op_mul pe_int (pv 2)) (pv 6)) (pe_op op_mul pe_int (pv 4))) (pa_cons (pe_op op_sub (pe_op op_sub (pe_op op_mul pe_int (pv 4)) (pe_op op_mul pe_int (pv 2))) (pv 6)) pa_nil))) pa_nil)))))
      (pss_one (ps_ret (pe_ix (r := rIxL K) ix_list (pe_lc (own := [("number", 7)]) (by rfl) sc_at_place.nd (pi_list (pv 5)) (blkOk_by (own := [("number", 7)]) (N := N_at_place) (sc := defScope s_at_place) (by decide +kernel)) (fun _ _ _ _ _ => (pg_name (i := 7) sc_at_place.nd rfl (Or.inl rfl))) (fun _ _ _ _ _ => pts_one (PW.pt (pw_and (pt_chain op_le op_le pe_int (pv 7) (pv 0)) (pw_and1 (pt_cmpR (r := rIn K false) op_in_seq (pv 1) (pe_call (ok_both T) (hr.mono (by decide)) (by rfl) T.g_both T.F_both.kp T.b_both .nil pass0 (pa_cons (pv 0) (pa_cons (pv 7) pa_nil))) (by rfl)))))) (fun _ _ _ _ _ => (pv 7))) pe_int (fun _ _ => rfl))))))))), ?_⟩
    refine q_asg (by walk_at "ev") fun H1 e1 => q_asg (by walk_at "ev") fun H2 e2 => q_asg (by walk_at "ev") fun H3 e3 => ?_
    refine q_asgL (el_lst (by walk_at "ev") (by show 10 ≤ 100000; decide)) fun a H4 ha e4 h4 => ?_
    have h4 : H4 a = some (.lst (((cand l q).take 10).map V.int)) := h4
    have e04 : Ex H H4 := ((e1.trans e2).trans e3).trans e4
    have ha0 : H a = none := fresh_back ((e1.trans e2).trans e3) ha
    refine q_forNU (xs := [.int (-1), .int 1, .int 3]) (eu_tup (by walk_at "ev") (by show 3 ≤ 100000; decide)) (fun p i σ' H' => (∃ y, σ' = [some (.int l), some (.int q), some (.int (l / 4)), some (.int (6 * (l / 4) + 2 * (l % 4))), some (.int (q + 1)), some (.ref a), y, none]) ∧ Ex H H' ∧ H' p = some (.tup [.int (-1), .int 1, .int 3]) ∧ p ≠ a ∧ H' a = some (.lst (((cand l q).take (10 + 2 * i)).map V.int)))
      (fun p H5 hp e5 h5 => ⟨⟨none, rfl⟩, e04.trans e5, h5, (fun z => by rw [z, h4] at hp; cases hp), e5 _ _ h4⟩) (fun p i σ' H' _ hP => st_of hP.2.2.1) ?_ ?_
    · rintro p i x σ' H' hi ⟨⟨y, rfl⟩, e', hp, np, h'⟩
      rcases i with _ | _ | _ | i
      · obtain rfl : V.int (-1) = x := Option.some.inj hi
        refine s_ext h' (ev_var rfl) (el_lst (by walk_at "ev") (by show 2 ≤ 100000; decide)) (by show 10 + 2 ≤ 100000; decide) fun H6 e6 => ⟨⟨_, rfl⟩, Ex.mut (e'.trans e6) ha0, ?_, np, upd_same⟩
        rw [upd_ne np]
        exact e6 _ _ hp
      · obtain rfl : V.int 1 = x := Option.some.inj hi
        refine s_ext h' (ev_var rfl) (el_lst (by walk_at "ev") (by show 2 ≤ 100000; decide)) (by show 12 + 2 ≤ 100000; decide) fun H6 e6 => ⟨⟨_, rfl⟩, Ex.mut (e'.trans e6) ha0, ?_, np, upd_same⟩
        rw [upd_ne np]
        exact e6 _ _ hp
      · obtain rfl : V.int 3 = x := Option.some.inj hi
        refine s_ext h' (ev_var rfl) (el_lst (by walk_at "ev") (by show 2 ≤ 100000; decide)) (by show 14 + 2 ≤ 100000; decide) fun H6 e6 => ⟨⟨_, rfl⟩, Ex.mut (e'.trans e6) ha0, ?_, np, upd_same⟩
        rw [upd_ne np]
        exact e6 _ _ hp
      · simp at hi
    · rintro p σ' H' ⟨⟨y, rfl⟩, e', hp, np, h'⟩
      have h' : H' a = some (.lst ((cand l q).map V.int)) := h'
      refine s_ret (ev_opL1 (el_is (el_lcL (xs := (cand l q).map V.int) (fun i => decide (At l q ((cand l q).getD i 0))) (fun i => .int ((cand l q).getD i 0)) (ev_var rfl) (sq_of h') (by show 16 ≤ 40000; decide) (fun _ => rfl)
          (fun i x H1 _ hi => by rw [getD_of hi]; exact et_cand (T := T) hl rfl rfl rfl) (fun i x H1 _ hi _ => by rw [getD_of hi]; exact ev_var rfl)) (given_filter (fun n => decide (At l q n)) (cand l q))) (fun _ _ => ev_c) fun p H6 hp6 e6 => rv_ixL (sq_of hp6) ?_) fun H7 e7 => k H7 (e'.trans e7)
      obtain ⟨r, er⟩ := filt_at hl (at_num hl h1 h2)
      rw [er]
      exact atI_nat (j := 0) rfl
theorem v_at_place {l q : Int} {H : Hp} (h : Can l) (h1 : 0 ≤ q) (h2 : q < 2 * l) : SpV sp_at_place [.int l, .int q] H (.int (num l q)) := fun _ _ _ k _ => ⟨l, q, rfl, h, h1, h2, k⟩
/-! ### number_at -/
def sp_number_at (T : Tx K mg) : Sp := fun vs H Q E => ∃ v u, vs = [v, u] ∧ ((∃ l q : Int, v = .int l ∧ u = .int q ∧ Can l ∧ 0 ≤ q ∧ q < 2 * l ∧ RetV (.int (num l q)) H Q) ∨ LastX T v H E ∨
  ∃ l : Int, v = .int l ∧ Can l ∧ BadV K H u (fun q => q < 0 ∨ 2 * l ≤ q) ∧ Err T.c_BadPlace H E)
theorem ok_number_at (T : Tx K mg) : FnOk P w K mg base (L2N.CX P w) 5 T.a_number_at T.d_number_at ["last", "place"] (sp_number_at T) := by
  refine okXN T.F_number_at sc_number_at (fun vs H Q E h => ?_) (fun cdv A outer s H vs Q E hr h => ?_)
  · obtain ⟨v, u, rfl, _⟩ := h
    rfl
  · obtain ⟨v, u, rfl, h⟩ := h
    refine ⟨_, (pss_cons (ps_expr (pe_call (ok_asked_row T) (hr.mono (by decide)) (by rfl) T.g_asked_row T.F_asked_row.kp T.b_asked_row .nil (L2N.passes_call (L2N.takes_of rfl rfl rfl rfl) (fun _ _ _ _ h => h)) (pa_cons (pv 0) pa_nil)))
      (pss_cons (ps_if (PW.pt (pw_or (pt_not (pt_val (pe_call (ok_is_number T) (hr.mono (by decide)) (by rfl) T.g_is_number T.F_is_number.kp T.b_is_number .nil pass0 (pa_cons (pv 1) pa_nil)))) (pw_or1 (pt_not (pt_chain op_le op_lt pe_int (pv 1) (pe_op op_mul pe_int (pv 0))))))) (pss_one (L2N.ps_raise rfl (L2N.takes_of rfl rfl rfl rfl) (L2N.pmk_own PySem.F.excBase_ValueError T.x_BadPlace.ex T.g_BadPlace T.x_BadPlace.kp (raises_own T.x_BadPlace.sb T.x_BadPlace.ty) (by rfl)))) pss_nil)
      (pss_one (ps_ret (pe_call (ok_at_place T) (hr.mono (by decide)) (by rfl) T.g_at_place T.F_at_place.kp T.b_at_place .nil pass0 (pa_cons (pv 0) (pa_cons (pv 1) pa_nil))))))), ?_⟩
    rcases h with ⟨l, q, rfl, rfl, hl, h1, h2, k⟩ | hx | ⟨l, rfl, hl, hb, k⟩
    · refine q_drop (ev_call (ea_cons (ev_var rfl) ea_nil) (v_asked_row (T := T) hl)) fun H1 e1 => ?_
      refine q_when (b := false) (et_is (et_or (et_not (et_B (ev_call (ea_cons (ev_var rfl) ea_nil) (v_is_number (Num.int q))))) fun _ => et_not (et_test (ev_chain ev_c (ev_var rfl) rv_I0 (fun _ => by walk_at "ev") fun _ => rv_I0))) ?_) (fun z => nomatch z) fun _ H2 e2 => ?_
      · rw [decide_eq_true h1, decide_eq_true h2]
        rfl
      · exact s_ret (ev_call (by walk_at "ev") (v_at_place hl h1 h2)) fun H3 e3 => k H3 ((e1.trans e2).trans e3)
    · exact ⟨_, rfl, _, rfl, .inr hx⟩
    · refine q_drop (ev_call (ea_cons (ev_var rfl) ea_nil) (v_asked_row (T := T) hl)) fun H1 e1 => ?_
      rcases hb with hb | ⟨q, rfl, hq⟩
      · exact q_when (b := true) (et_is (a := !false || true) (et_or (et_not (et_B (ev_call (ea_cons (ev_var rfl) ea_nil) (v_is_number (hb.ex e1))))) fun z => nomatch z) rfl) (fun _ H2 e2 => k H2 (e1.trans e2)) (fun z => nomatch z)
      · refine q_when (b := true) (et_is (et_or (et_not (et_B (ev_call (ea_cons (ev_var rfl) ea_nil) (v_is_number (Num.int q))))) fun _ => et_not (et_test (ev_chain ev_c (ev_var rfl) rv_I0 (fun _ => by walk_at "ev") fun _ => rv_I0))) ?_) (fun _ H2 e2 => k H2 (e1.trans e2)) (fun z => nomatch z)
        simp only [Bool.not_true, Bool.false_or, Bool.not_eq_true', Bool.and_eq_false_iff, decide_eq_false_iff_not]
        omega
theorem v_number_at {T : Tx K mg} {l q : Int} {H : Hp} (h : Can l) (h1 : 0 ≤ q) (h2 : q < 2 * l) : SpV (sp_number_at T) [.int l, .int q] H (.int (num l q)) := fun _ _ _ k _ => ⟨_, _, rfl, .inl ⟨l, q, rfl, rfl, h, h1, h2, k⟩⟩
end
end PA

set_option Elab.async false
set_option linter.all false
set_option maxRecDepth 100000
set_option maxHeartbeats 4000000
namespace PA
open PySem PySem.Spec PyProof.Rows L2 Evl
local macro_rules | `(tactic| walk_at "ev") => `(tactic| repeat' (first | (with_reducible exact ev_c) | (with_reducible refine' ev_var ?_) | (show _ = some (some _); rfl) | (with_reducible exact ea_nil) | (with_reducible refine' ea_cons ?_ ?_) | (with_reducible refine' ev_abs ?_) | (with_reducible refine' ev_op ?_ ?_ ?_) | (with_reducible exact rv_I0) | (exact rv_mulL (by decide)) | (exact rv_mulR (by decide)) | (exact rv_div (by decide)) | (exact rv_mod (by decide)) | (exact rv_pow (by decide)) | (with_reducible refine' ev_un ?_ ?_) | (with_reducible exact ru_neg) | (exact rv_eq rfl) | (exact rv_ne rfl) | (with_reducible refine' et_test ?_) | (with_reducible refine' et_B ?_) | (exact ev_c) | (exact rv_I0) | (exact ru_neg) | (exact ea_nil) | (refine' ea_cons ?_ ?_)))
section
variable {P : Program} {w : World} {K : PySem.W.Frag} {mg : Str → Option Value} {base : Heap}
theorem getD_mem {ns : List Int} {i : Nat} (h : i < ns.length) : ns.getD i 0 ∈ ns := by
  rw [List.getD_eq_getElem?_getD, List.getElem?_eq_getElem h]
  exact List.getElem_mem h
/-! ### _law_number, _law_last, _law_whole -/
def mixed (c a s : Int) : Int := ((c + 977 * a) * 48271 + s) % 2147483647
def lawNum (c a s : Int) : Int := if 10 ^ 18 ≤ c then c / (1 + a % 7) else mixed c a s * (c + 31 * a + 7) * (mixed c a s + c + 5) * (mixed c a s * mixed c a s + 11) / (1009 + a)
def sp__law_number : Sp := fun vs H Q _ => ∃ c a s : Int, vs = [.int c, .int a, .int s] ∧ 0 ≤ a ∧ a ≤ 1000 ∧ Builtin.Int.intBits c ≤ 1048576 ∧ RetV (.int (lawNum c a s)) H Q
theorem small_bits {x : Int} {m : Nat} (h : x.natAbs < 2 ^ m) : Builtin.Int.intBits x ≤ m := intBits_le_iff.mpr h
theorem ok__law_number (T : Tx K mg) : FnOk P w K mg base CX0 1 T.a__law_number T.d__law_number ["_law_cell", "_law_at", "_law_whole_here"] sp__law_number := by
  refine T.F__law_number.ok sc__law_number (fun vs H Q E h => ?_) (fun cdv A outer s H vs Q E hr h => ?_)
  · obtain ⟨c, a, s, rfl, _⟩ := h
    rfl
  · obtain ⟨c, a, S, rfl, h0, h1, hb, k⟩ := h
    refine ⟨_, (pss_cons (ps_if (pt_cmpR op_ge (pv 0) (pe_op op_pow pe_int pe_int) (nomark _)) (pss_one (ps_ret (pe_op op_fdiv (pv 0) (pe_op op_add pe_int (pe_op op_mod (pv 1) pe_int))))) pss_nil)
      (pss_cons (ps_set (i := 3) sc__law_number.nd rfl (.inl rfl) (pe_op op_mod (pe_op op_add (pe_op op_mul (pe_op op_add (pv 0) (pe_op op_mul pe_int (pv 1))) pe_int) (pv 2)) pe_int))
      (pss_cons (ps_set (i := 4) sc__law_number.nd rfl (.inl rfl) (pe_op op_mul (pv 3) (pe_op op_add (pe_op op_add (pv 0) (pe_op op_mul pe_int (pv 1))) pe_int)))
      (pss_one (ps_ret (pe_op op_fdiv (pe_op op_mul (pe_op op_mulX (pv 4) (pe_op op_add (pe_op op_add (pv 3) (pv 0)) pe_int)) (pe_op op_add (pe_op op_mul (pv 3) (pv 3)) pe_int)) (pe_op op_add pe_int (pv 1)))))))), ?_⟩
    refine q_when (b := decide ((10 : Int) ^ 18 ≤ c)) (by walk_at "ev") (fun z H1 e1 => ?_) fun z H1 e1 => ?_
    · unfold lawNum at k
      rw [if_pos (of_decide_eq_true z)] at k
      refine s_ret (ev_op (ev_var rfl) (by walk_at "ev") (rv_div ?_)) fun H2 e2 => k H2 (e1.trans e2)
      have := Int.emod_nonneg a (show (7 : Int) ≠ 0 by decide)
      have := Int.emod_lt_of_pos a (show (0 : Int) < 7 by decide)
      omega
    · unfold lawNum at k
      rw [if_neg (of_decide_eq_false z)] at k
      refine q_asg (v := .int (mixed c a S)) (by walk_at "ev") fun H2 e2 => ?_
      have m0 : 0 ≤ mixed c a S := Int.emod_nonneg _ (by decide)
      have m1 : mixed c a S < 2147483647 := Int.emod_lt_of_pos _ (by decide)
      generalize mixed c a S = M at *
      have mb : Builtin.Int.intBits M ≤ 31 := small_bits (by have : (2 : Nat) ^ 31 = 2147483648 := by decide
                                                             omega)
      have ab : Builtin.Int.intBits (31 * a) ≤ 20 := small_bits (by have : (2 : Nat) ^ 20 = 1048576 := by decide
                                                                    omega)
      have sb : Builtin.Int.intBits (7 : Int) ≤ 3 := by decide
      have fb : Builtin.Int.intBits (5 : Int) ≤ 3 := by decide
      have b1 : Builtin.Int.intBits (c + 31 * a + 7) ≤ 1048578 := Nat.le_trans (intBits_add_le (intBits_add_le hb ab) sb) (by decide)
      have b2 : Builtin.Int.intBits (M * (c + 31 * a + 7)) ≤ 31 + 1048578 := intBits_mul_le mb b1
      have b3 : Builtin.Int.intBits (M + c + 5) ≤ 1048578 := Nat.le_trans (intBits_add_le (intBits_add_le mb hb) fb) (by decide)
      refine q_asg (v := .int (M * (c + 31 * a + 7))) (ev_op (ev_var rfl) (by walk_at "ev") (rv_mulL ⟨by omega, by omega⟩)) fun H3 e3 => ?_
      refine s_ret (ev_op (ev_op (ev_op (ev_var rfl) (by walk_at "ev") (rv_mulX b2 b3 (by decide))) (ev_op (ev_op (ev_var rfl) (ev_var rfl) (rv_mulL ⟨by omega, by omega⟩)) ev_c rv_I0) (rv_mulR ?_)) (by walk_at "ev") (rv_div ?_)) fun H4 e4 => k H4 (((e1.trans e2).trans e3).trans e4)
      · have p0 : 0 ≤ M * M := Int.mul_nonneg m0 m0
        have p1 : M * M ≤ 2147483647 * 2147483647 := Int.mul_le_mul (Int.le_of_lt m1) (Int.le_of_lt m1) m0 (by decide)
        exact ⟨by omega, by omega⟩
      · exact ⟨by omega, by omega⟩
theorem v__law_number {c a s : Int} {H : Hp} (h0 : 0 ≤ a) (h1 : a ≤ 1000) (hb : Builtin.Int.intBits c ≤ 1048576) : SpV sp__law_number [.int c, .int a, .int s] H (.int (lawNum c a s)) := fun _ _ _ q _ => ⟨c, a, s, rfl, h0, h1, hb, q⟩
def cellsOf (ns : List Int) : List Int := if ns = [] then [3] else ns
theorem cells_len {ns : List Int} (h : ns.length ≤ 63) : 1 ≤ (cellsOf ns).length ∧ (cellsOf ns).length ≤ 63 := by
  unfold cellsOf
  split
  · exact ⟨by decide, by decide⟩
  · rename_i hn
    exact ⟨List.length_pos_iff.mpr hn, h⟩
theorem cells_bits {ns : List Int} (h : ∀ z ∈ ns, Builtin.Int.intBits z ≤ 1048576) : ∀ z ∈ cellsOf ns, Builtin.Int.intBits z ≤ 1048576 := by
  unfold cellsOf
  split
  · intro z hz
    rw [List.mem_singleton.mp hz]
    decide
  · exact h
def lastFound (ns : List Int) (a : Int) : Int := 1 + lawNum ((cellsOf ns).getD (a % (cellsOf ns).length).toNat 0) a (cellsOf ns).length / 5 % (([20, 200, 10 ^ 6, 10 ^ 40] : List Int).getD (((cellsOf ns).sum + a) % 4).toNat 0)
def lawLast (ns : List Int) (a : Int) : Int := if 1 < lastFound ns a % 4 then lastFound ns a + 2 else lastFound ns a
theorem pick_pos {i : Int} (h0 : 0 ≤ i) (h1 : i < 4) : 0 < ([20, 200, 10 ^ 6, 10 ^ 40] : List Int).getD i.toNat 0 := by
  have : i = 0 ∨ i = 1 ∨ i = 2 ∨ i = 3 := by omega
  rcases this with rfl | rfl | rfl | rfl <;> decide
theorem lawLast_can (ns : List Int) (a : Int) : Can (lawLast ns a) := by
  have h0 := Int.emod_nonneg ((cellsOf ns).sum + a) (show (4 : Int) ≠ 0 by decide)
  have h1 := Int.emod_lt_of_pos ((cellsOf ns).sum + a) (show (0 : Int) < 4 by decide)
  have hp := pick_pos h0 h1
  have hm := Int.emod_nonneg (lawNum ((cellsOf ns).getD (a % (cellsOf ns).length).toNat 0) a (cellsOf ns).length / 5) (show ([20, 200, 10 ^ 6, 10 ^ 40] : List Int).getD (((cellsOf ns).sum + a) % 4).toNat 0 ≠ 0 by omega)
  have hf : 1 ≤ lastFound ns a := by
    unfold lastFound
    omega
  unfold lawLast Can
  split <;> omega
def sp__law_last (K : PySem.W.Frag) : Sp := fun vs H Q _ => ∃ (a : Addr) (ns : List Int) (i : Int), vs = [.ref a, .int i] ∧ SqL K H a (ns.map V.int) ∧ ns.length ≤ 63 ∧ (∀ z ∈ ns, Builtin.Int.intBits z ≤ 1048576) ∧ 0 ≤ i ∧ i ≤ 1000 ∧ RetV (.int (lawLast ns i)) H Q
theorem ok__law_last (T : Tx K mg) : FnOk P w K mg base CX0 2 T.a__law_last T.d__law_last ["_law_script", "_law_at"] (sp__law_last K) := by
  refine T.F__law_last.ok sc__law_last (fun vs H Q E h => ?_) (fun cdv A outer s H vs Q E hr h => ?_)
  · obtain ⟨a, ns, i, rfl, _⟩ := h
    rfl
  · obtain ⟨a, ns, i, rfl, hS, hl, hb, h0, h1, k⟩ := h
    refine ⟨_, (pss_cons (ps_set (i := 2) sc__law_last.nd rfl (.inl rfl) (pe_ifExp (pt_cmpR (r := rNeD K) (op_neD hr.units) (pv 0) (pe_lst pa_nil) (nomark _)) (pe_slice (r := rSlL K) sl_list (pv 0) po_none (po_some pe_int)) (pe_lst (pa_cons pe_int pa_nil))))
      (pss_cons (ps_set (i := 3) sc__law_last.nd rfl (.inl rfl) (pe_call (ok__law_number T) (hr.mono (by decide)) (by rfl) T.g__law_number T.F__law_number.kp T.b__law_number .nil pass0 (pa_cons (pe_ix (r := rIxL K) ix_list (pv 2) (pe_op op_mod (pv 1) (pe_callB (r := rLenS K) call_len_seq (by rfl) T.m_len bt_len (pa_cons (pv 2) pa_nil))) (fun _ _ => rfl)) (pa_cons (pv 1) (pa_cons (pe_callB (r := rLenS K) call_len_seq (by rfl) T.m_len bt_len (pa_cons (pv 2) pa_nil)) pa_nil)))))
      (pss_cons (ps_set (i := 4) sc__law_last.nd rfl (.inl rfl) (pe_op op_add pe_int (pe_op op_mod (pe_op op_fdiv (pv 3) pe_int) (pe_ix (r := rIxT K) ix_tup (pe_tup (pa_cons pe_int (pa_cons pe_int (pa_cons (pe_op op_pow pe_int pe_int) (pa_cons (pe_op op_pow pe_int pe_int) pa_nil))))) (pe_op op_mod (pe_op op_add (pe_callB (r := rSum K) (cr_sum rfl) (by rfl) T.m_sum bt_sum (pa_cons (pv 2) pa_nil)) (pv 1)) pe_int) (fun _ _ => rfl)))))
      (pss_one (ps_ret (pe_ifExp (pt_cmpR op_gt (pe_op op_mod (pv 4) pe_int) pe_int (nomark _)) (pe_op op_add (pv 4) pe_int) (pv 4))))))), ?_⟩
    have cl := cells_len hl
    have cb := cells_bits hb
    refine q_asgL (xs := (cellsOf ns).map V.int) (el_if (et_test (ev_opL (xs := []) (ev_var rfl) (el_lst ea_nil (by decide)) fun p H1 hp e1 => rv_neL (ex_l e1 hS) (ms := []) (sq_of hp))) (fun z => ?_) fun z => ?_) fun c H1 hc e1 h1c => ?_
    · have hn : ¬ ns = [] := by simpa using z
      refine el_is (el_sl (ev_var rfl) eo_none (eo_some ev_c) hS) ?_
      rw [cut_all (by rw [List.length_map]; exact hl)]
      unfold cellsOf
      rw [if_neg hn]
    · have hn : ns = [] := by simpa using z
      refine el_is (el_lst (by walk_at "ev") (by show 1 ≤ 100000; decide)) ?_
      unfold cellsOf
      rw [if_pos hn]
      rfl
    · have hC : SqL K H1 c ((cellsOf ns).map V.int) := sq_of h1c
      have hlen : ∀ H2, Ex H1 H2 → SqL K H2 c ((cellsOf ns).map V.int) := fun H2 e => ex_l e hC
      have m0 : 0 ≤ i % (cellsOf ns).length := Int.emod_nonneg _ (by omega)
      have m1 : i % (cellsOf ns).length < (cellsOf ns).length := Int.emod_lt_of_pos _ (by omega)
      have el : (((cellsOf ns).map V.int).length : Int) = ((cellsOf ns).length : Int) := by rw [List.length_map]
      have evl : ∀ {σ : L2.St} {H2 : Hp}, Ex H1 H2 → σ[2]? = some (some (.ref c)) → Ev (tCB (rLenS K) (tCons (tVar 2) tNil)) σ H2 (.int ((cellsOf ns).length : Int)) := fun e hv => by
        rw [← el]
        exact ev_len (ev_var hv) (hlen _ e)
      refine q_asg (ev_call (vs := [.int ((cellsOf ns).getD (i % (cellsOf ns).length).toNat 0), .int i, .int (cellsOf ns).length]) (ea_cons (ev_op (ev_var rfl) (ev_op (ev_var rfl) (evl (Ex.refl _) rfl) (rv_mod (by omega))) (rv_ixL hC (atI_int m0 (by omega)))) (ea_cons (ev_var rfl) (ea_cons (evl (Ex.refl _) rfl) ea_nil)))
        (v__law_number h0 h1 (cb _ (getD_mem (by omega))))) fun H2 e2 => ?_
      have s0 := Int.emod_nonneg ((cellsOf ns).sum + i) (show (4 : Int) ≠ 0 by decide)
      have s1 := Int.emod_lt_of_pos ((cellsOf ns).sum + i) (show (0 : Int) < 4 by decide)
      refine q_asg (v := .int (lastFound ns i)) (ev_op ev_c (ev_op (by walk_at "ev") (ev_opU1 (xs := ([20, 200, 10 ^ 6, 10 ^ 40] : List Int).map V.int) (eu_tup (by walk_at "ev") (by show 4 ≤ 100000; decide)) (fun H3 e3 => ev_op (ev_op (ev_sum (ev_var rfl) (hlen H3 (e2.trans e3))) (ev_var rfl) rv_I0) ev_c (rv_mod (by decide)))
        fun p H3 hp e3 => rv_ixT (st_of hp) (atI_int s0 (by show _ < (4 : Int); exact s1))) (rv_mod (pick_pos s0 s1))) rv_I0) fun H3 e3 => ?_
      refine s_ret (v := .int (lawLast ns i)) (ev_is (ev_ifV (by walk_at "ev") (fun _ => by walk_at "ev") (fun _ => by walk_at "ev")) ?_) fun H4 e4 => k H4 (((e1.trans e2).trans e3).trans e4)
      unfold lawLast
      simp only [decide_eq_true_eq]
      split <;> rfl
theorem v__law_last {a : Addr} {ns : List Int} {i : Int} {H : Hp} (hS : SqL K H a (ns.map V.int)) (hl : ns.length ≤ 63) (hb : ∀ z ∈ ns, Builtin.Int.intBits z ≤ 1048576) (h0 : 0 ≤ i) (h1 : i ≤ 1000) : SpV (sp__law_last K) [.ref a, .int i] H (.int (lawLast ns i)) := fun _ e _ q _ => ⟨a, ns, i, rfl, ex_l e hS, hl, hb, h0, h1, q⟩
def sp__law_whole (K : PySem.W.Frag) : Sp := fun vs H Q _ => ∃ n : Int, vs = [.int n] ∧ RetV (.bl true) H Q
theorem ok__law_whole (T : Tx K mg) : FnOk P w K mg base CX0 1 T.a__law_whole T.d__law_whole ["_law_number_here"] (sp__law_whole K) := by
  refine T.F__law_whole.ok sc__law_whole (fun vs H Q E h => ?_) (fun cdv A outer s H vs Q E hr h => ?_)
  · obtain ⟨n, rfl, _⟩ := h
    rfl
  · obtain ⟨n, rfl, k⟩ := h
    refine ⟨_, (pss_one (ps_ret (pe_and (pe_callB (r := rIsi K) call_isi (by rfl) T.m_isinstance bt_isinstance (pa_cons (pv 0) (pa_cons (pe_bltn (v := .ty "int") (by rfl) T.m_int bt_int rfl) pa_nil))) (pe_one (pe_not (pe_callB (r := rIsi K) call_isi (by rfl) T.m_isinstance bt_isinstance (pa_cons (pv 0) (pa_cons (pe_bltn (v := .ty "bool") (by rfl) T.m_bool bt_bool rfl) pa_nil)))))))), ?_⟩
    exact s_ret (v := .bl (true && !false)) (ev_andV (ev_isi (ea_cons (ev_var rfl) (ea_cons ev_c ea_nil)) (.ty "int") (.base (.int n)) (kit_ty (by decide +kernel))) fun z => ev_notV (ev_isi (ea_cons (ev_var rfl) (ea_cons ev_c ea_nil)) (.ty "bool") (.base (.int n)) (kit_ty (by decide +kernel)))) k
theorem v__law_whole {n : Int} {H : Hp} : SpV (sp__law_whole K) [.int n] H (.bl true) := fun _ _ _ q _ => ⟨n, rfl, q⟩
end
end PA

set_option Elab.async false
set_option linter.all false
set_option maxRecDepth 100000
set_option maxHeartbeats 4000000
namespace PA
open PySem PySem.Spec PyProof.Rows L2 Evl
local macro_rules | `(tactic| walk_at "ev") => `(tactic| repeat' (first | (with_reducible exact ev_c) | (with_reducible refine' ev_var ?_) | (show _ = some (some _); rfl) | (with_reducible exact ea_nil) | (with_reducible refine' ea_cons ?_ ?_) | (with_reducible refine' ev_abs ?_) | (with_reducible refine' ev_op ?_ ?_ ?_) | (with_reducible exact rv_I0) | (exact rv_mulL (by decide)) | (exact rv_mulR (by decide)) | (exact rv_div (by decide)) | (exact rv_mod (by decide)) | (exact rv_pow (by decide)) | (with_reducible refine' ev_un ?_ ?_) | (with_reducible exact ru_neg) | (exact rv_eq rfl) | (exact rv_ne rfl) | (with_reducible refine' et_test ?_) | (with_reducible refine' et_B ?_) | (exact ev_c) | (exact rv_I0) | (exact ru_neg) | (exact ea_nil) | (refine' ea_cons ?_ ?_)))
section
variable {P : Program} {w : World} {K : PySem.W.Frag} {mg : Str → Option Value} {base : Heap}
/-! ### can -/
def sp_can (T : Tx K mg) : Sp := fun vs H Q E => ∃ v, vs = [v] ∧ ((∃ n : Int, v = .int n ∧ 1 ≤ n ∧ (n % 4 < 2 → RetI T.c_Can [] H Q) ∧ (¬ n % 4 < 2 → RetI T.c_Barred [] H Q)) ∨ (BadV K H v (· < 1) ∧ Err T.c_BadLast H E))
theorem ok_can (T : Tx K mg) : FnOk P w K mg base (L2N.CX P w) 3 T.a_can T.d_can ["last"] (sp_can T) := by
  refine okXN T.F_can sc_can (fun vs H Q E h => ?_) (fun cdv A outer s H vs Q E hr h => ?_)
  · obtain ⟨v, rfl, _⟩ := h
    rfl
  · obtain ⟨v, rfl, h⟩ := h
    refine ⟨_, (pss_cons (ps_expr (pe_call (ok_asked_last T) (hr.mono (by decide)) (by rfl) T.g_asked_last T.F_asked_last.kp T.b_asked_last .nil (L2N.passes_call (L2N.takes_of rfl rfl rfl rfl) (fun _ _ _ _ h => h)) (pa_cons (pv 0) pa_nil)))
      (pss_one (ps_ret (pe_ifExp (pt_cmpR op_lt (pe_op op_mod (pv 0) pe_int) pe_int (nomark _)) (pe_new0 T.n_Can (by rfl) T.g_Can) (pe_new0 T.n_Barred (by rfl) T.g_Barred))))), ?_⟩
    rcases h with ⟨n, rfl, h1, kc, kb⟩ | ⟨hb, k⟩
    · refine q_drop (ev_call (ea_cons (ev_var rfl) ea_nil) (v_asked_last (T := T) h1)) fun H1 e1 => ?_
      refine x_if (by walk_at "ev") (fun z H2 e2 => ?_) fun z H2 e2 => ?_
      · exact (ei_new (C := T.c_Can)) H2 (Ex.refl _) _ fun p dx H3 hp e3 h3 => (kc (of_decide_eq_true z)).go (e1.trans e2) hp e3 h3
      · exact (ei_new (C := T.c_Barred)) H2 (Ex.refl _) _ fun p dx H3 hp e3 h3 => (kb (of_decide_eq_false z)).go (e1.trans e2) hp e3 h3
    · exact ⟨_, rfl, _, rfl, .inr ⟨hb, k⟩⟩
theorem v_can1 {T : Tx K mg} {n : Int} {H : Hp} (h : 1 ≤ n) (h4 : n % 4 < 2) : SpI (sp_can T) [.int n] H T.c_Can [] := fun _ _ _ q _ => ⟨_, rfl, .inl ⟨n, rfl, h, fun _ => q, fun z => absurd h4 z⟩⟩
theorem v_can0 {T : Tx K mg} {n : Int} {H : Hp} (h : 1 ≤ n) (h4 : ¬ n % 4 < 2) : SpI (sp_can T) [.int n] H T.c_Barred [] := fun _ _ _ q _ => ⟨_, rfl, .inl ⟨n, rfl, h, fun z => absurd z h4, fun _ => q⟩⟩
end
end PA

set_option Elab.async false
set_option linter.all false
set_option maxRecDepth 100000
set_option maxHeartbeats 4000000
namespace PA
open PySem PySem.Spec PyProof.Rows L2 Evl
local macro_rules | `(tactic| walk_at "ev") => `(tactic| repeat' (first | (with_reducible exact ev_c) | (with_reducible refine' ev_var ?_) | (show _ = some (some _); rfl) | (with_reducible exact ea_nil) | (with_reducible refine' ea_cons ?_ ?_) | (with_reducible refine' ev_abs ?_) | (with_reducible refine' ev_op ?_ ?_ ?_) | (with_reducible exact rv_I0) | (exact rv_mulL (by decide)) | (exact rv_mulR (by decide)) | (exact rv_div (by decide)) | (exact rv_mod (by decide)) | (exact rv_pow (by decide)) | (with_reducible refine' ev_un ?_ ?_) | (with_reducible exact ru_neg) | (exact rv_eq rfl) | (exact rv_ne rfl) | (with_reducible refine' et_test ?_) | (with_reducible refine' et_B ?_) | (exact ev_c) | (exact rv_I0) | (exact ru_neg) | (exact ea_nil) | (refine' ea_cons ?_ ?_)))
section
variable {P : Program} {w : World} {K : PySem.W.Frag} {mg : Str → Option Value} {base : Heap}
theorem at_fst {l n : Int} (h1 : 1 ≤ n) (h2 : n ≤ l) : At l (fst l n) n := ⟨⟨h1, h2⟩, .inl rfl⟩
theorem at_snd {l n : Int} (h1 : 1 ≤ n) (h2 : n ≤ l) : At l (fst l n + n) n := ⟨⟨h1, h2⟩, .inr rfl⟩
/-! ### row -/
theorem ite_iff {a b : Prop} [Decidable a] [Decidable b] {x y : Int} (h : a ↔ b) : (if a then x else y) = if b then x else y := by
  by_cases ha : a
  · rw [if_pos ha, if_pos (h.mp ha)]
  · rw [if_neg ha, if_neg fun z => ha (h.mpr z)]
/-- what stands at a place when the numbers to k are laid, and the first place of the next one where c is 1 -/
def laid (l k : Int) (c : Nat) (j : Nat) : Int := if num l j ≤ k ∨ (c = 1 ∧ (j : Int) = fst l (k + 1)) then num l j else 0
theorem laid_first {l k : Int} (hl : Can l) (h0 : 0 ≤ k) (h1 : k < l) : (tabl (2 * l).toNat (laid l k 0)).set (fst l (k + 1)).toNat (k + 1) = tabl (2 * l).toNat (laid l k 1) := by
  have fr := fst_rng hl (show 1 ≤ k + 1 by omega) (show k + 1 ≤ l by omega)
  rw [tabl_set]
  refine tabl_congr fun i hi => ?_
  by_cases e : i = (fst l (k + 1)).toNat
  · have e2 : (i : Int) = fst l (k + 1) := by omega
    have e3 : num l i = k + 1 := by rw [e2]; exact num_at hl (at_fst (by omega) (by omega))
    rw [if_pos e]
    unfold laid
    rw [if_pos (.inr ⟨rfl, e2⟩), e3]
  · have e2 : ¬ (i : Int) = fst l (k + 1) := by omega
    rw [if_neg e]
    unfold laid
    have p : (num l i ≤ k ∨ (0 = 1 ∧ (i : Int) = fst l (k + 1))) ↔ (num l i ≤ k ∨ (1 = 1 ∧ (i : Int) = fst l (k + 1))) := by omega
    exact ite_iff p
theorem laid_second {l k : Int} (hl : Can l) (h0 : 0 ≤ k) (h1 : k < l) : (tabl (2 * l).toNat (laid l k 1)).set (fst l (k + 1) + (k + 1)).toNat (k + 1) = tabl (2 * l).toNat (laid l (k + 1) 0) := by
  have fr := fst_rng hl (show 1 ≤ k + 1 by omega) (show k + 1 ≤ l by omega)
  rw [tabl_set]
  refine tabl_congr fun i hi => ?_
  by_cases e : i = (fst l (k + 1) + (k + 1)).toNat
  · have e2 : (i : Int) = fst l (k + 1) + (k + 1) := by omega
    have e3 : num l i = k + 1 := by rw [e2]; exact num_at hl (at_snd (by omega) (by omega))
    rw [if_pos e]
    unfold laid
    rw [if_pos (.inl (by omega)), e3]
  · have e2 : ¬ (i : Int) = fst l (k + 1) + (k + 1) := by omega
    rw [if_neg e]
    have ha := at_num hl (show 0 ≤ (i : Int) by omega) (show (i : Int) < 2 * l by omega)
    unfold laid
    by_cases e3 : num l i = k + 1
    · have e4 : (i : Int) = fst l (k + 1) := by
        rcases ha.2 with z | z
        · rw [e3] at z; exact z
        · rw [e3] at z; exact absurd z e2
      rw [if_pos (.inr ⟨rfl, e4⟩), if_pos (.inl (by omega))]
    · have nf : ¬ (i : Int) = fst l (k + 1) := fun z => e3 (num_at hl ⟨⟨by omega, by omega⟩, .inl z⟩)
      have p : (num l i ≤ k ∨ (1 = 1 ∧ (i : Int) = fst l (k + 1))) ↔ (num l i ≤ k + 1 ∨ (0 = 1 ∧ (i : Int) = fst l (k + 1 + 1))) := by omega
      exact ite_iff p
theorem laid_zero {l : Int} (hl : Can l) : tabl (2 * l).toNat (laid l 0 0) = List.replicate (2 * l).toNat 0 := by
  rw [← tabl_const]
  refine tabl_congr fun i hi => ?_
  have ha := at_num hl (show 0 ≤ (i : Int) by omega) (show (i : Int) < 2 * l by omega)
  have := ha.1.1
  unfold laid
  refine if_neg ?_
  omega
theorem laid_last {l : Int} (hl : Can l) : tabl (2 * l).toNat (laid l l 0) = rowL l := by
  show _ = tabl (2 * l).toNat (fun j => num l j)
  refine tabl_congr fun i hi => ?_
  have ha := at_num hl (show 0 ≤ (i : Int) by omega) (show (i : Int) < 2 * l by omega)
  unfold laid
  exact if_pos (.inl ha.1.2)
def sp_row (T : Tx K mg) : Sp := fun vs H Q E => ∃ v, vs = [v] ∧ ((∃ l : Int, v = .int l ∧ Can l ∧ l ≤ 100 ∧ RetL ((rowL l).map V.int) H Q) ∨ (BadV K H v (fun l => l < 1 ∨ 100 < l) ∧ Err T.c_BadLast H E) ∨
  ∃ l : Int, v = .int l ∧ 1 ≤ l ∧ l ≤ 100 ∧ 1 < l % 4 ∧ Err T.c_NoRow H E)
theorem ok_row (T : Tx K mg) : FnOk P w K mg base (L2N.CX P w) 4 T.a_row T.d_row ["last"] (sp_row T) := by
  refine okXN T.F_row sc_row (fun vs H Q E h => ?_) (fun cdv A outer s H vs Q E hr h => ?_)
  · obtain ⟨v, rfl, _⟩ := h
    rfl
  · obtain ⟨v, rfl, h⟩ := h
    refine ⟨_, (pss_cons (ps_expr (pe_call (ok_asked_last T) (hr.mono (by decide)) (by rfl) T.g_asked_last T.F_asked_last.kp T.b_asked_last .nil (L2N.passes_call (L2N.takes_of rfl rfl rfl rfl) (fun _ _ _ _ h => h)) (pa_cons (pv 0) pa_nil)))
      (pss_cons (ps_if (pt_cmpR op_gt (pv 0) (pe_glob (v := .int 100) (by rfl) T.c_GREATEST ⟨_, rfl⟩) (nomark _)) (pss_one (L2N.ps_raise rfl (L2N.takes_of rfl rfl rfl rfl) (L2N.pmk_own PySem.F.excBase_ValueError T.x_BadLast.ex T.g_BadLast T.x_BadLast.kp (raises_own T.x_BadLast.sb T.x_BadLast.ty) (by rfl)))) pss_nil)
      (pss_cons (ps_expr (pe_call (ok_asked_row T) (hr.mono (by decide)) (by rfl) T.g_asked_row T.F_asked_row.kp T.b_asked_row .nil (L2N.passes_call (L2N.takes_of rfl rfl rfl rfl) (fun _ _ _ _ h => h)) (pa_cons (pv 0) pa_nil)))
      (pss_cons (ps_set (i := 1) sc_row.nd rfl (.inl rfl) (pe_op op_rep (pe_lst (pa_cons pe_int pa_nil)) (pe_op op_mul pe_int (pv 0))))
      (pss_cons (ps_for (passes_of rfl) rfl (pi_range2 (by rfl) T.m_range (pa_cons pe_int (pa_cons (pe_op op_add (pv 0) pe_int) pa_nil))) (pg_name (i := 2) sc_row.nd rfl (Or.inl rfl))
      (pss_one (ps_for (passes_of rfl) rfl (pi_tup (pe_call (ok_both T) (hr.mono (by decide)) (by rfl) T.g_both T.F_both.kp T.b_both .nil pass0 (pa_cons (pv 0) (pa_cons (pv 2) pa_nil)))) (pg_name (i := 3) sc_row.nd rfl (Or.inl rfl))
      (pss_one (ps_asg (pv 2) (pg_sub (pv 1) (pv 3) set_list))))))
      (pss_one (ps_ret (pv 1)))))))), ?_⟩
    rcases h with ⟨l, rfl, hl, h100, k⟩ | ⟨hb, k⟩ | ⟨l, rfl, h1, h2, h4, k⟩
    · refine q_drop (ev_call (ea_cons (ev_var rfl) ea_nil) (v_asked_last (T := T) hl.1)) fun H1 e1 => ?_
      refine q_when (b := false) (et_is (et_test (ev_op (ev_var rfl) ev_c rv_I0)) (decide_eq_false (by omega))) (fun z => nomatch z) fun _ H2 e2 => ?_
      refine q_drop (ev_call (ea_cons (ev_var rfl) ea_nil) (v_asked_row (T := T) hl)) fun H3 e3 => ?_
      have l1 := hl.1
      refine q_asgL (xs := (tabl (2 * l).toNat (laid l 0 0)).map V.int) (el_is (el_rep (el_lst (by walk_at "ev") (by show 1 ≤ 100000; decide)) (by walk_at "ev") (by omega) (by omega) (by show 1 * _ ≤ _; omega)) (by rw [laid_zero hl]; exact rep_flat _ 0)) fun b H4 hb e4 h4 => ?_
      have e03 := (e1.trans e2).trans e3
      have hb0 : H b = none := fresh_back e03 hb
      refine q_forR2 (lo := 1) (n := l + 1) (by walk_at "ev") (by omega) (fun i σ' H' => (∃ y2 y3, σ' = [some (.int l), some (.ref b), y2, y3]) ∧ Ex H H' ∧ H' b = some (.lst ((tabl (2 * l).toNat (laid l i 0)).map V.int)))
        (fun H5 e5 => ⟨⟨_, _, rfl⟩, (e03.trans e4).trans e5, e5 _ _ h4⟩) ?_ ?_
      · rintro i σ' H' hi ⟨⟨y2, y3, rfl⟩, e5, h5⟩
        have hn1 : (1 : Int) ≤ 1 + i := by omega
        have hn2 : (1 : Int) + i ≤ l := by omega
        have ei : (1 : Int) + i = i + 1 := by omega
        have fr := fst_rng hl hn1 hn2
        refine (eu_call (xs := [.int (fst l (1 + i)), .int (fst l (1 + i) + (1 + i))]) (by walk_at "ev") (v_both hl hn1 hn2)) H' (Ex.refl H') _ fun p H7 hp e7 h7 => ⟨p, rfl, ⟨_, st_of h7⟩, ?_⟩
        have npb : p ≠ b := fun z => by rw [z, h5] at hp; cases hp
        refine for_tup (xs := [.int (fst l (1 + i)), .int (fst l (1 + i) + (1 + i))]) (fun c σ' H' => (∃ y3, σ' = [some (.int l), some (.ref b), some (.int (1 + i)), y3]) ∧ Ex H H' ∧ H' p = some (.tup [.int (fst l (1 + i)), .int (fst l (1 + i) + (1 + i))]) ∧ H' b = some (.lst ((tabl (2 * l).toNat (if c = 2 then laid l (i + 1) 0 else laid l i c)).map V.int)))
          ⟨⟨_, rfl⟩, e5.trans e7, h7, e7 _ _ h5⟩ (fun c σ' H' _ h => st_of h.2.2.1) ?_ ?_
        · rintro c x σ' H' hc ⟨⟨y3, rfl⟩, e8, hp8, h8⟩
          have key : ∃ (q : Int) (g : Nat → Int), At l q (1 + i) ∧ c ≤ 1 ∧ x = .int q ∧ (tabl (2 * l).toNat (laid l i c)).set q.toNat (1 + i) = tabl (2 * l).toNat g ∧ g = (if c + 1 = 2 then laid l (i + 1) 0 else laid l i (c + 1)) := by
            rcases c with _ | _ | c
            · have f := laid_first hl (show 0 ≤ (i : Int) by omega) (show (i : Int) < l by omega)
              rw [← ei] at f
              exact ⟨_, _, at_fst hn1 hn2, by omega, (Option.some.inj hc).symm, f, rfl⟩
            · have f := laid_second hl (show 0 ≤ (i : Int) by omega) (show (i : Int) < l by omega)
              rw [← ei] at f
              exact ⟨_, _, at_snd hn1 hn2, by omega, (Option.some.inj hc).symm, f, by rw [ei]; rfl⟩
            · simp at hc
          obtain ⟨q, g, hq, hc1, rfl, hset, hg⟩ := key
          have c2 : c ≠ 2 := by omega
          rw [if_neg c2] at h8
          have hr0 : 0 ≤ q ∧ q < 2 * l := by
            rcases hq.2 with e | e <;> omega
          have hjl : q.toNat < (2 * l).toNat := by omega
          have eq0 : ((q.toNat : Nat) : Int) = q := by omega
          refine s_setL (j := q.toNat) (v := .int (1 + i)) h8 (ev_var rfl) (ev_var rfl) (by rw [eq0]; exact ev_var rfl) (by rw [List.length_map, tabl_len]; exact hjl) fun H9 e9 => ⟨⟨_, rfl⟩, Ex.mut (e8.trans e9) hb0, ?_, ?_⟩
          · rw [upd_ne npb]
            exact e9 _ _ hp8
          · rw [upd_same, ← hg, ← hset, List.map_set]
        · rintro σ' H' ⟨⟨y3, rfl⟩, e8, hp8, h8⟩
          exact ⟨⟨_, _, rfl⟩, e8, h8⟩
      · rintro σ' H' ⟨⟨y2, y3, rfl⟩, e5, h5⟩
        have el2 : (((l + 1 - 1).toNat : Nat) : Int) = l := by omega
        rw [el2, laid_last hl] at h5
        exact s_ret (ev_var rfl) fun H6 e6 => k b H6 hb0 (e5.trans e6) (e6 _ _ h5)
    · rcases hb with hb | ⟨l, rfl, hl⟩
      · exact ⟨_, rfl, _, rfl, .inr ⟨.inl hb, k⟩⟩
      · by_cases h1 : l < 1
        · exact ⟨_, rfl, _, rfl, .inr ⟨.inr ⟨l, rfl, h1⟩, k⟩⟩
        · refine q_drop (ev_call (ea_cons (ev_var rfl) ea_nil) (v_asked_last (T := T) (n := l) (by omega))) fun H1 e1 => ?_
          exact q_when (b := true) (et_is (et_test (ev_op (ev_var rfl) ev_c rv_I0)) (decide_eq_true (by omega))) (fun _ H2 e2 => k H2 (e1.trans e2)) (fun z => nomatch z)
    · refine q_drop (ev_call (ea_cons (ev_var rfl) ea_nil) (v_asked_last (T := T) h1)) fun H1 e1 => ?_
      refine q_when (b := false) (et_is (et_test (ev_op (ev_var rfl) ev_c rv_I0)) (decide_eq_false (by omega))) (fun z => nomatch z) fun _ H2 e2 => ?_
      exact ⟨_, rfl, _, rfl, .inr (.inr ⟨l, rfl, h1, h4, fun H3 e3 => k H3 ((e1.trans e2).trans e3)⟩)⟩
theorem v_row {T : Tx K mg} {l : Int} {H : Hp} (h : Can l) (h1 : l ≤ 100) : SpL (sp_row T) [.int l] H ((rowL l).map V.int) := fun _ _ _ q _ => ⟨_, rfl, .inl ⟨l, rfl, h, h1, q⟩⟩
end
end PA

set_option Elab.async false
set_option linter.all false
set_option maxRecDepth 100000
set_option maxHeartbeats 4000000
namespace PA
open PySem PySem.Spec PyProof.Rows L2 Evl
local macro_rules | `(tactic| walk_at "ev") => `(tactic| repeat' (first | (with_reducible exact ev_c) | (with_reducible refine' ev_var ?_) | (show _ = some (some _); rfl) | (with_reducible exact ea_nil) | (with_reducible refine' ea_cons ?_ ?_) | (with_reducible refine' ev_abs ?_) | (with_reducible refine' ev_op ?_ ?_ ?_) | (with_reducible exact rv_I0) | (exact rv_mulL (by decide)) | (exact rv_mulR (by decide)) | (exact rv_div (by decide)) | (exact rv_mod (by decide)) | (exact rv_pow (by decide)) | (with_reducible refine' ev_un ?_ ?_) | (with_reducible exact ru_neg) | (exact rv_eq rfl) | (exact rv_ne rfl) | (with_reducible refine' et_test ?_) | (with_reducible refine' et_B ?_) | (exact ev_c) | (exact rv_I0) | (exact ru_neg) | (exact ea_nil) | (refine' ea_cons ?_ ?_)))
section
variable {P : Program} {w : World} {K : PySem.W.Frag} {mg : Str → Option Value} {base : Heap}
/-! ### three_by, three_of -/
def sp_three_by : Sp := fun vs H Q _ => ∃ l n : Int, vs = [.int l, .int n] ∧ Can l ∧ 1 ≤ n ∧ n ≤ l ∧ RetL ((three l n).map V.int) H Q
theorem ok_three_by (T : Tx K mg) : FnOk P w K mg base CX0 3 T.a_three_by T.d_three_by ["last", "number"] sp_three_by := by
  refine T.F_three_by.ok sc_three_by (fun vs H Q E h => ?_) (fun cdv A outer s H vs Q E hr h => ?_)
  · obtain ⟨l, n, rfl, _⟩ := h
    rfl
  · obtain ⟨l, n, rfl, hl, h1, h2, k⟩ := h
    refine ⟨_, (pss_cons (ps_set (i := 2) sc_three_by.nd rfl (.inl rfl) (pe_op op_add (pe_op op_add (pv 0) (pe_call (ok_first_of T) (hr.mono (by decide)) (by rfl) T.g_first_of T.F_first_of.kp T.b_first_of .nil pass0 (pa_cons (pv 0) (pa_cons (pv 1) pa_nil)))) pe_int))
      (pss_one (ps_ret (pe_lst (pa_cons (pv 1) (pa_cons (pv 2) (pa_cons (pe_op op_add (pv 2) (pv 1)) pa_nil))))))), ?_⟩
    refine q_asg (v := .int (l + fst l n + 1)) (ev_op (ev_op (ev_var rfl) (ev_call (by walk_at "ev") (v_first_of hl h1 h2)) rv_I0) ev_c rv_I0) fun H1 e1 => ?_
    refine s_retL (el_is (el_lst (by walk_at "ev") (by show 3 ≤ 100000; decide)) ?_) fun p H2 hp e2 h2 => k.go e1 hp e2 h2
    unfold three
    rw [bas_low h2]
    rfl
theorem v_three_by {l n : Int} {H : Hp} (h : Can l) (h1 : 1 ≤ n) (h2 : n ≤ l) : SpL sp_three_by [.int l, .int n] H ((three l n).map V.int) := fun _ _ _ q _ => ⟨l, n, rfl, h, h1, h2, q⟩
def sp_three_of (T : Tx K mg) : Sp := fun vs H Q E => ∃ v u, vs = [v, u] ∧ ((∃ l n : Int, v = .int l ∧ u = .int n ∧ Can l ∧ 1 ≤ n ∧ n ≤ 3 * l ∧ RetL ((three l n).map V.int) H Q) ∨ LastX T v H E ∨
  ∃ l : Int, v = .int l ∧ Can l ∧ BadV K H u (fun n => n < 1 ∨ 3 * l < n) ∧ Err T.c_BadNumber H E)
theorem ok_three_of (T : Tx K mg) : FnOk P w K mg base (L2N.CX P w) 5 T.a_three_of T.d_three_of ["last", "number"] (sp_three_of T) := by
  refine okXN T.F_three_of sc_three_of (fun vs H Q E h => ?_) (fun cdv A outer s H vs Q E hr h => ?_)
  · obtain ⟨v, u, rfl, _⟩ := h
    rfl
  · obtain ⟨v, u, rfl, h⟩ := h
    refine ⟨_, (pss_cons (ps_expr (pe_call (ok_asked_row T) (hr.mono (by decide)) (by rfl) T.g_asked_row T.F_asked_row.kp T.b_asked_row .nil (L2N.passes_call (L2N.takes_of rfl rfl rfl rfl) (fun _ _ _ _ h => h)) (pa_cons (pv 0) pa_nil)))
      (pss_cons (ps_if (PW.pt (pw_or (pt_not (pt_val (pe_call (ok_is_number T) (hr.mono (by decide)) (by rfl) T.g_is_number T.F_is_number.kp T.b_is_number .nil pass0 (pa_cons (pv 1) pa_nil)))) (pw_or1 (pt_not (pt_chain op_le op_le pe_int (pv 1) (pe_op op_mul pe_int (pv 0))))))) (pss_one (L2N.ps_raise rfl (L2N.takes_of rfl rfl rfl rfl) (L2N.pmk_own PySem.F.excBase_ValueError T.x_BadNumber.ex T.g_BadNumber T.x_BadNumber.kp (raises_own T.x_BadNumber.sb T.x_BadNumber.ty) (by rfl)))) pss_nil)
      (pss_one (ps_ret (pe_call (ok_three_by T) (hr.mono (by decide)) (by rfl) T.g_three_by T.F_three_by.kp T.b_three_by .nil pass0 (pa_cons (pv 0) (pa_cons (pe_ifExp (pt_cmpR op_le (pv 1) (pv 0) (nomark _)) (pv 1) (pe_call (ok_at_place T) (hr.mono (by decide)) (by rfl) T.g_at_place T.F_at_place.kp T.b_at_place .nil pass0 (pa_cons (pv 0) (pa_cons (pe_op op_sub (pe_op op_sub (pv 1) (pv 0)) pe_int) pa_nil)))) pa_nil))))))), ?_⟩
    rcases h with ⟨l, n, rfl, rfl, hl, h1, h2, k⟩ | hx | ⟨l, rfl, hl, hb, k⟩
    · refine q_drop (ev_call (ea_cons (ev_var rfl) ea_nil) (v_asked_row (T := T) hl)) fun H1 e1 => ?_
      refine q_when (b := false) (et_is (et_or (et_not (et_B (ev_call (ea_cons (ev_var rfl) ea_nil) (v_is_number (Num.int n))))) fun _ => et_not (et_test (ev_chain ev_c (ev_var rfl) rv_I0 (fun _ => by walk_at "ev") fun _ => rv_I0))) ?_) (fun z => nomatch z) fun _ H2 e2 => ?_
      · rw [decide_eq_true h1, decide_eq_true h2]
        rfl
      · have b := bas_rng hl h1 h2
        refine s_retL (el_is (el_call (vs := [.int l, .int (bas l n)]) (ea_cons (ev_var rfl) (ea_cons (ev_is (ev_ifV (w := .int (num l (n - l - 1))) (by walk_at "ev") (fun _ => ev_var rfl) fun z => ?_) ?_) ea_nil)) (v_three_by hl b.1 b.2)) ?_) fun p H3 hp e3 h3 => k.go (e1.trans e2) hp e3 h3
        · have z := of_decide_eq_false z
          exact ev_call (vs := [.int l, .int (n - l - 1)]) (by walk_at "ev") (v_at_place hl (by omega) (by omega))
        · unfold bas
          simp only [decide_eq_true_eq]
          split <;> rfl
        · unfold three
          rw [bas_low b.2]
    · exact ⟨_, rfl, _, rfl, .inr hx⟩
    · refine q_drop (ev_call (ea_cons (ev_var rfl) ea_nil) (v_asked_row (T := T) hl)) fun H1 e1 => ?_
      rcases hb with hb | ⟨n, rfl, hn⟩
      · exact q_when (b := true) (et_is (a := !false || true) (et_or (et_not (et_B (ev_call (ea_cons (ev_var rfl) ea_nil) (v_is_number (hb.ex e1))))) fun z => nomatch z) rfl) (fun _ H2 e2 => k H2 (e1.trans e2)) (fun z => nomatch z)
      · refine q_when (b := true) (et_is (et_or (et_not (et_B (ev_call (ea_cons (ev_var rfl) ea_nil) (v_is_number (Num.int n))))) fun _ => et_not (et_test (ev_chain ev_c (ev_var rfl) rv_I0 (fun _ => by walk_at "ev") fun _ => rv_I0))) ?_) (fun _ H2 e2 => k H2 (e1.trans e2)) (fun z => nomatch z)
        simp only [Bool.not_true, Bool.false_or, Bool.not_eq_true', Bool.and_eq_false_iff, decide_eq_false_iff_not]
        omega
theorem v_three_of {T : Tx K mg} {l n : Int} {H : Hp} (h : Can l) (h1 : 1 ≤ n) (h2 : n ≤ 3 * l) : SpL (sp_three_of T) [.int l, .int n] H ((three l n).map V.int) := fun _ _ _ q _ => ⟨_, _, rfl, .inl ⟨l, n, rfl, rfl, h, h1, h2, q⟩⟩
end
end PA

set_option Elab.async false
set_option linter.all false
set_option maxRecDepth 100000
set_option maxHeartbeats 4000000
namespace PA
open PySem PySem.Spec PyProof.Rows L2 Evl
local macro_rules | `(tactic| walk_at "ev") => `(tactic| repeat' (first | (with_reducible exact ev_c) | (with_reducible refine' ev_var ?_) | (show _ = some (some _); rfl) | (with_reducible exact ea_nil) | (with_reducible refine' ea_cons ?_ ?_) | (with_reducible refine' ev_abs ?_) | (with_reducible refine' ev_op ?_ ?_ ?_) | (with_reducible exact rv_I0) | (exact rv_mulL (by decide)) | (exact rv_mulR (by decide)) | (exact rv_div (by decide)) | (exact rv_mod (by decide)) | (exact rv_pow (by decide)) | (with_reducible refine' ev_un ?_ ?_) | (with_reducible exact ru_neg) | (exact rv_eq rfl) | (exact rv_ne rfl) | (with_reducible refine' et_test ?_) | (with_reducible refine' et_B ?_) | (exact ev_c) | (exact rv_I0) | (exact ru_neg) | (exact ea_nil) | (refine' ea_cons ?_ ?_)))
section
variable {P : Program} {w : World} {K : PySem.W.Frag} {mg : Str → Option Value} {base : Heap}
/-! ### is_right -/
theorem ev_count {σ : L2.St} {H : Hp} {ta tb : TE} {a : Addr} {ns : List Int} {n : Int} (h : Ev ta σ H (.ref a)) (hs : SqL K H a (ns.map V.int)) (hn : Ev tb σ H (.int n)) : Ev (tBM K "list" (rCntI K) ta (tCons tb tNil)) σ H (.int ((ns.count n : Nat) : Int)) := fun H1 e Q q =>
  h H1 e _ fun H2 e2 => ⟨Or.inl ⟨rfl, _, ex_l (e.trans e2) hs⟩, hn H2 (e.trans e2) _ fun H3 e3 => ⟨a, ns, n, rfl, rfl, ex_l ((e.trans e2).trans e3) hs, q H3 (e2.trans e3)⟩⟩
theorem ev_index {σ : L2.St} {H : Hp} {ta tb : TE} {a : Addr} {ns : List Int} {n : Int} {j : Nat} (h : Ev ta σ H (.ref a)) (hs : SqL K H a (ns.map V.int)) (hn : Ev tb σ H (.int n)) (hj : ns[j]? = some n) (hf : ∀ m z, m < j → ns[m]? = some z → z ≠ n) : Ev (tBM K "list" (rIndex K) ta (tCons tb tNil)) σ H (.int (j : Nat)) := fun H1 e Q q =>
  h H1 e _ fun H2 e2 => ⟨Or.inl ⟨rfl, _, ex_l (e.trans e2) hs⟩, hn H2 (e.trans e2) _ fun H3 e3 => ⟨a, ns.map V.int, .int n, j, .int n, rfl, rfl, ex_l ((e.trans e2).trans e3) hs, rfl, List.all_eq_true.mpr fun v hv => (by
      obtain ⟨x, _, rfl⟩ := List.mem_map.mp hv
      rfl), by rw [List.getElem?_map, hj]; rfl, (by show (n == n) = true; exact beq_self_eq_true n), fun m z' hm hz => (by
      rw [List.getElem?_map] at hz
      cases e4 : ns[m]? with
      | none => rw [e4] at hz; cases hz
      | some z =>
        rw [e4] at hz
        have : V.int z = z' := Option.some.inj hz
        subst this
        show (z == n) = false
        exact beq_eq_false_iff_ne.mpr (hf m z hm e4)), q H3 (e2.trans e3)⟩⟩
def sp_is_right (K : PySem.W.Frag) : Sp := fun vs H Q _ => ∃ (a : Addr) (ns : List Int) (n : Int), vs = [.ref a, .int n] ∧ SqL K H a (ns.map V.int) ∧ 1 ≤ n ∧ RetV (.bl (rgt ns n)) H Q
theorem ok_is_right (T : Tx K mg) : FnOk P w K mg base CX0 1 T.a_is_right T.d_is_right ["row", "number"] (sp_is_right K) := by
  refine T.F_is_right.ok sc_is_right (fun vs H Q E h => ?_) (fun cdv A outer s H vs Q E hr h => ?_)
  · obtain ⟨a, ns, n, rfl, _⟩ := h
    rfl
  · obtain ⟨a, ns, n, rfl, hS, h1, k⟩ := h
    refine ⟨_, (pss_cons (ps_if (pt_cmpR op_ne (pe_bm PySem.F.plainAttrs_list PySem.F.slot_list_count PySem.F.type_list_count mt_lcount (pv 0) (pa_cons (pv 1) pa_nil)) pe_int (nomark _)) (pss_one (ps_ret pe_bl)) pss_nil)
      (pss_cons (ps_set (i := 2) sc_is_right.nd rfl (.inl rfl) (pe_bm PySem.F.plainAttrs_list PySem.F.slot_list_index PySem.F.type_list_index mt_index (pv 0) (pa_cons (pv 1) pa_nil)))
      (pss_one (ps_ret (pe_and (pe_cmpR op_lt (pe_op op_add (pv 2) (pv 1)) (pe_callB (r := rLenS K) call_len_seq (by rfl) T.m_len bt_len (pa_cons (pv 0) pa_nil)) (nomark _)) (pe_one (pe_cmpR op_eq (pe_ix (r := rIxL K) ix_list (pv 0) (pe_op op_add (pv 2) (pv 1)) (fun _ _ => rfl)) (pv 1) (nomark _)))))))), ?_⟩
    refine q_when (et_test (ev_op (ev_count (ev_var rfl) hS (ev_var rfl)) ev_c (rv_ne rfl))) (fun z H1 e1 => ?_) fun z H1 e1 => ?_
    · have hc : (posL ns n).length ≠ 2 := fun y => by
        rw [count_pos, y] at z
        simp at z
      rw [rgt_no hc] at k
      exact s_ret (by walk_at "ev") fun H2 e2 => k H2 (e1.trans e2)
    · have hc : (posL ns n).length = 2 := by
        rw [count_pos] at z
        simp only [Bool.not_eq_false', decide_eq_true_eq, V.int.injEq] at z
        omega
      obtain ⟨i, j, hp, hij⟩ := pair_of hc
      have pf := pos_first hp hij
      have S1 := ex_l e1 hS
      refine q_asg (ev_index (ev_var rfl) S1 (ev_var rfl) pf.1 pf.2) fun H2 e2 => ?_
      have S2 := ex_l e2 S1
      have r := rgt_at hp hij h1
      have il := lt_of pf.1
      refine s_ret (v := .bl (rgt ns n)) (ev_is (ev_andV (ev_op (by walk_at "ev") (ev_len (ev_var rfl) S2) rv_I0) fun z => ev_op (ev_op (ev_var rfl) (by walk_at "ev") (rv_ixL S2 (atI_int (i := (i : Int) + n) (by omega) ?_))) (ev_var rfl) (rv_eq rfl)) ?_) fun H3 e3 => k H3 ((e1.trans e2).trans e3)
      · have := of_decide_eq_true z
        rw [List.length_map] at this
        exact this
      · rw [← r, List.length_map]
        congr 2
        exact decide_eq_decide.mpr ⟨fun z => V.int.inj z, fun z => by rw [z]⟩
theorem v_is_right {a : Addr} {ns : List Int} {n : Int} {H : Hp} (hS : SqL K H a (ns.map V.int)) (h1 : 1 ≤ n) : SpV (sp_is_right K) [.ref a, .int n] H (.bl (rgt ns n)) := fun _ e _ q _ => ⟨a, ns, n, rfl, ex_l e hS, h1, q⟩
/-! ### Good.shows -/
def sp_Good_shows (K : PySem.W.Frag) : Sp := fun vs H Q _ => ∃ (p a : Addr) (ns : List Int), vs = [.ref p, .ref a] ∧ SqL K H a (ns.map V.int) ∧ ns.length ≤ 1000 ∧ RetV (.bl (good ns)) H Q
theorem ok_Good_shows (T : Tx K mg) : FnOk P w K mg base CX0 2 T.a_Good_shows T.d_Good_shows ["self", "row"] (sp_Good_shows K) := by
  refine T.F_Good_shows.ok sc_Good_shows (fun vs H Q E h => ?_) (fun cdv A outer s H vs Q E hr h => ?_)
  · obtain ⟨p, a, ns, rfl, _⟩ := h
    rfl
  · obtain ⟨p, a, ns, rfl, hS, hlen, k⟩ := h
    refine ⟨_, (pss_one (ps_ret (pe_callB (r := rAll K) (cr_all rfl) (by rfl) T.m_all bt_all (pa_cons (pe_lc (own := [("number", 2)]) (by rfl) sc_Good_shows.nd (pi_range2 (by rfl) T.m_range (pa_cons pe_int (pa_cons (pe_op op_add (pe_op op_fdiv (pe_callB (r := rLenS K) call_len_seq (by rfl) T.m_len bt_len (pa_cons (pv 1) pa_nil)) pe_int) pe_int) pa_nil))) (blkOk_by (own := [("number", 2)]) (N := N_Good_shows) (sc := defScope s_Good_shows) (by decide +kernel)) (fun _ _ _ _ _ => (pg_name (i := 2) sc_Good_shows.nd rfl (Or.inl rfl))) (fun _ _ _ _ _ => pts_nil) (fun _ _ _ _ _ => (pe_call (ok_is_right T) (hr.mono (by decide)) (by rfl) T.g_is_right T.F_is_right.kp T.b_is_right .nil pass0 (pa_cons (pv 1) (pa_cons (pv 2) pa_nil))))) pa_nil)))), ?_⟩
    have el : (((ns.map V.int).length : Nat) : Int) = (ns.length : Int) := by rw [List.length_map]
    refine s_ret (v := .bl (good ns)) (ev_is (ev_allN (b := fun i => rgt ns (1 + (i : Int))) (el_lcR2 (lo := 1) (n := (ns.length : Int) / 2 + 1) (fun _ => true) (fun i => .bl (rgt ns (1 + (i : Int)))) (ea_cons ev_c (ea_cons (ev_op (ev_op (ev_lenI (ev_var rfl) hS) ev_c (rv_div (by decide))) ev_c rv_I0) ea_nil)) (by omega) (fun _ => rfl) (fun _ _ _ _ => et_yes)
      fun i H1 e1 hi _ => ev_call (vs := [.ref a, .int (1 + (i : Int))]) (by walk_at "ev") (v_is_right (ex_l e1 hS) (by omega)))) ?_) k
    unfold good
    rw [show ((ns.length : Int) / 2 + 1 - 1).toNat = ns.length / 2 by omega]
theorem v_Good_shows {p a : Addr} {ns : List Int} {H : Hp} (hS : SqL K H a (ns.map V.int)) (h1 : ns.length ≤ 1000) : SpV (sp_Good_shows K) [.ref p, .ref a] H (.bl (good ns)) := fun _ e _ q _ => ⟨p, a, ns, rfl, ex_l e hS, h1, q⟩
/-! ### Off -/
theorem ok_Off___init__ (T : Tx K mg) : FnOk P w K mg base CX0 1 T.a_Off___init__ T.d_Off___init__ ["self", "number"] (sp_init1 T.c_Off "number") := by
  refine T.F_Off___init__.ok sc_Off___init__ (fun vs H Q E h => ?_) (fun cdv A outer s H vs Q E hr h => ?_)
  · obtain ⟨p, dx, v, rfl, _⟩ := h
    rfl
  · obtain ⟨p, dx, v, rfl, hp, k⟩ := h
    refine ⟨_, (pss_one (ps_fld (pv 0) (pv 1) rfl)), ?_⟩
    exact ⟨_, rfl, _, rfl, p, T.c_Off, dx, [], rfl, hp, T.i_Off.cl, T.na_Off_number, (by show 0 < 1000; decide), k⟩
/-- what Off(n).shows tells -/
def off (ns : List Int) (n : Int) : Bool := (decide (1 ≤ n) && decide (n ≤ ((ns.length / 2 : Nat) : Int))) && !(rgt ns n)
def sp_Off_shows (T : Tx K mg) : Sp := fun vs H Q _ => ∃ (p dx a : Addr) (n : Int) (ns : List Int), vs = [.ref p, .ref a] ∧ H p = some (.ins T.c_Off dx [("number", .int n)]) ∧ SqL K H a (ns.map V.int) ∧ RetV (.bl (off ns n)) H Q
theorem ok_Off_shows (T : Tx K mg) : FnOk P w K mg base CX0 2 T.a_Off_shows T.d_Off_shows ["self", "row"] (sp_Off_shows T) := by
  refine T.F_Off_shows.ok sc_Off_shows (fun vs H Q E h => ?_) (fun cdv A outer s H vs Q E hr h => ?_)
  · obtain ⟨p, dx, a, n, ns, rfl, _⟩ := h
    rfl
  · obtain ⟨p, dx, a, n, ns, rfl, hp, hS, k⟩ := h
    refine ⟨_, (pss_one (ps_ret (pe_and (pe_chain op_le op_le pe_int (pe_fld (pv 0) rfl) (pe_op op_fdiv (pe_callB (r := rLenS K) call_len_seq (by rfl) T.m_len bt_len (pa_cons (pv 1) pa_nil)) pe_int)) (pe_one (pe_not (pe_call (ok_is_right T) (hr.mono (by decide)) (by rfl) T.g_is_right T.F_is_right.kp T.b_is_right .nil pass0 (pa_cons (pv 1) (pa_cons (pe_fld (pv 0) rfl) pa_nil)))))))), ?_⟩
    have el : (((ns.map V.int).length : Nat) : Int) = (ns.length : Int) := by rw [List.length_map]
    have fl : ∀ {σ : L2.St} {H2 : Hp}, Ex H H2 → σ[0]? = some (some (.ref p)) → Ev (tFld K (tVar 0) "number") σ H2 (.int n) := fun e hv => ev_fld (e _ _ hp) (ev_var hv) T.i_Off.cl T.na_Off_number rfl
    refine s_ret (v := .bl (off ns n)) (ev_is (ev_andV (ev_chain ev_c (fl (Ex.refl _) rfl) rv_I0 (fun _ => ev_op (ev_lenI (ev_var rfl) hS) ev_c (rv_div (by decide))) fun _ => rv_I0) fun z => ev_notV (ev_call (vs := [.ref a, .int n]) (ea_cons (ev_var rfl) (ea_cons (fl (Ex.refl _) rfl) ea_nil)) (v_is_right hS ?_))) ?_) k
    · simp only [Bool.and_eq_true, decide_eq_true_eq] at z
      exact z.1
    · unfold off
      congr 3
theorem v_Off_shows {T : Tx K mg} {p dx a : Addr} {n : Int} {ns : List Int} {H : Hp} (hp : H p = some (.ins T.c_Off dx [("number", .int n)])) (hS : SqL K H a (ns.map V.int)) : SpV (sp_Off_shows T) [.ref p, .ref a] H (.bl (off ns n)) := fun _ e _ q _ => ⟨p, dx, a, n, ns, rfl, e _ _ hp, ex_l e hS, q⟩
end
end PA

set_option Elab.async false
set_option linter.all false
set_option maxRecDepth 100000
set_option maxHeartbeats 4000000
namespace PA
open PySem PySem.Spec PyProof.Rows L2 Evl
local macro_rules | `(tactic| walk_at "ev") => `(tactic| repeat' (first | (with_reducible exact ev_c) | (with_reducible refine' ev_var ?_) | (show _ = some (some _); rfl) | (with_reducible exact ea_nil) | (with_reducible refine' ea_cons ?_ ?_) | (with_reducible refine' ev_abs ?_) | (with_reducible refine' ev_op ?_ ?_ ?_) | (with_reducible exact rv_I0) | (exact rv_mulL (by decide)) | (exact rv_mulR (by decide)) | (exact rv_div (by decide)) | (exact rv_mod (by decide)) | (exact rv_pow (by decide)) | (with_reducible refine' ev_un ?_ ?_) | (with_reducible exact ru_neg) | (exact rv_eq rfl) | (exact rv_ne rfl) | (with_reducible refine' et_test ?_) | (with_reducible refine' et_B ?_) | (exact ev_c) | (exact rv_I0) | (exact ru_neg) | (exact ea_nil) | (refine' ea_cons ?_ ?_)))
section
variable {P : Program} {w : World} {K : PySem.W.Frag} {mg : Str → Option Value} {base : Heap}
/-! ### Can.shows, Barred.shows -/
def sp_Can_shows : Sp := fun vs H Q _ => ∃ (p : Addr) (n : Int), vs = [.ref p, .int n] ∧ RetV (.bl (decide (n % 4 < 2))) H Q
theorem ok_Can_shows (T : Tx K mg) : FnOk P w K mg base CX0 1 T.a_Can_shows T.d_Can_shows ["self", "last"] sp_Can_shows := by
  refine T.F_Can_shows.ok sc_Can_shows (fun vs H Q E h => ?_) (fun cdv A outer s H vs Q E hr h => ?_)
  · obtain ⟨p, n, rfl, _⟩ := h
    rfl
  · obtain ⟨p, n, rfl, k⟩ := h
    refine ⟨_, (pss_one (ps_ret (pe_cmpR op_lt (pe_op op_mod (pv 1) pe_int) pe_int (nomark _)))), ?_⟩
    exact s_ret (by walk_at "ev") fun H1 e1 => k H1 e1
theorem v_Can_shows {p : Addr} {n : Int} {H : Hp} : SpV sp_Can_shows [.ref p, .int n] H (.bl (decide (n % 4 < 2))) := fun _ _ _ q _ => ⟨p, n, rfl, q⟩
def sp_Barred_shows : Sp := fun vs H Q _ => ∃ (p : Addr) (n : Int), vs = [.ref p, .int n] ∧ RetV (.bl (!decide (n % 4 < 2))) H Q
theorem ok_Barred_shows (T : Tx K mg) : FnOk P w K mg base CX0 1 T.a_Barred_shows T.d_Barred_shows ["self", "last"] sp_Barred_shows := by
  refine T.F_Barred_shows.ok sc_Barred_shows (fun vs H Q E h => ?_) (fun cdv A outer s H vs Q E hr h => ?_)
  · obtain ⟨p, n, rfl, _⟩ := h
    rfl
  · obtain ⟨p, n, rfl, k⟩ := h
    refine ⟨_, (pss_one (ps_ret (pe_cmpR op_gt (pe_op op_mod (pv 1) pe_int) pe_int (nomark _)))), ?_⟩
    refine s_ret (ev_is (by walk_at "ev") ?_) fun H1 e1 => k H1 e1
    have : decide (1 < n % 4) = !decide (n % 4 < 2) := by
      by_cases h : n % 4 < 2
      · rw [decide_eq_true h, decide_eq_false (by omega)]; rfl
      · rw [decide_eq_false h, decide_eq_true (by omega)]; rfl
    rw [this]
theorem v_Barred_shows {p : Addr} {n : Int} {H : Hp} : SpV sp_Barred_shows [.ref p, .int n] H (.bl (!decide (n % 4 < 2))) := fun _ _ _ q _ => ⟨p, n, rfl, q⟩
end
end PA

set_option Elab.async false
set_option linter.all false
set_option maxRecDepth 100000
set_option maxHeartbeats 4000000
namespace PA
open PySem PySem.Spec PyProof.Rows L2 Evl
local macro_rules | `(tactic| walk_at "ev") => `(tactic| repeat' (first | (with_reducible exact ev_c) | (with_reducible refine' ev_var ?_) | (show _ = some (some _); rfl) | (with_reducible exact ea_nil) | (with_reducible refine' ea_cons ?_ ?_) | (with_reducible refine' ev_abs ?_) | (with_reducible refine' ev_op ?_ ?_ ?_) | (with_reducible exact rv_I0) | (exact rv_mulL (by decide)) | (exact rv_mulR (by decide)) | (exact rv_div (by decide)) | (exact rv_mod (by decide)) | (exact rv_pow (by decide)) | (with_reducible refine' ev_un ?_ ?_) | (with_reducible exact ru_neg) | (exact rv_eq rfl) | (exact rv_ne rfl) | (with_reducible refine' et_test ?_) | (with_reducible refine' et_B ?_) | (exact ev_c) | (exact rv_I0) | (exact ru_neg) | (exact ea_nil) | (refine' ea_cons ?_ ?_)))
section
variable {P : Program} {w : World} {K : PySem.W.Frag} {mg : Str → Option Value} {base : Heap}
/-! ### _law_can_right -/
/-- p is a new Can or a new Barred -/
def IsB (T : Tx K mg) (b : Bool) (p : Addr) (H : Hp) : Prop := ∃ dx, H p = some (.ins (if b then T.c_Can else T.c_Barred) dx [])
theorem IsB.ex {T : Tx K mg} {b : Bool} {p : Addr} {H H' : Hp} (e : Ex H H') (h : IsB T b p H) : IsB T b p H' := by
  obtain ⟨dx, h⟩ := h
  exact ⟨dx, e _ _ h⟩
theorem ev_isB {T : Tx K mg} {b r1 r0 : Bool} {p c : Addr} {σ : L2.St} {H : Hp} {ta : TE} (hv : Ev ta σ H (.ref p)) (h : IsB T b p H) (k1 : PySem.W.kitOne K (.ref T.c_Can) (.ref c) = some r1) (k0 : PySem.W.kitOne K (.ref T.c_Barred) (.ref c) = some r0) :
    Ev (tCB (rIsi K) (tCons ta (tCons (tC (.ref c)) tNil))) σ H (.bl (if b then r1 else r0)) := by
  obtain ⟨dx, h⟩ := h
  cases b with
  | true => exact ev_isi (ea_cons hv (ea_cons ev_c ea_nil)) (.own c) (T.i_Can.ty h) k1
  | false => exact ev_isi (ea_cons hv (ea_cons ev_c ea_nil)) (.own c) (T.i_Barred.ty h) k0
theorem ev_shw {T : Tx K mg} {b : Bool} {p : Addr} {n : Int} {σ : L2.St} {H : Hp} {ta ta' : TE} {t t' : TA} {E E' : XK} (hv : Ev ta σ H (.ref p)) (hv' : Ev ta' σ H (.ref p)) (h : IsB T b p H) (ha : EvA t σ H [.int n]) (ha' : EvA t' σ H [.int n]) :
    Ev (fun σ H Q => tMeth T.c_Can "shows" sp_Can_shows [] E ta t σ H Q ∨ tMeth T.c_Barred "shows" sp_Barred_shows [] E' ta' t' σ H Q) σ H (.bl (decide (n % 4 < 2) == b)) := by
  obtain ⟨dx, h⟩ := h
  cases b with
  | true => exact ev_is (ev_orL (ev_methV h hv rfl ha v_Can_shows)) (by simp)
  | false => exact ev_is (ev_orR (ev_methV h hv' rfl ha' v_Barred_shows)) (by simp)
theorem eq_can {T : Tx K mg} {n : Int} {σ : L2.St} {H : Hp} {t : TA} {E : XK} (ha : EvA t σ H [.int n]) (h1 : 1 ≤ n) : EvQ (tCall (sp_can T) [] E t) σ H (fun v H => ∃ p, v = .ref p ∧ IsB T (decide (n % 4 < 2)) p H) := fun H1 e Q q => by
  by_cases hb : n % 4 < 2
  · rw [decide_eq_true hb] at q
    exact ei_call ha (v_can1 h1 hb) H1 e _ fun p dx H2 _ e2 h2 => q _ H2 e2 ⟨p, rfl, dx, h2⟩
  · rw [decide_eq_false hb] at q
    exact ei_call ha (v_can0 h1 hb) H1 e _ fun p dx H2 _ e2 h2 => q _ H2 e2 ⟨p, rfl, dx, h2⟩
def sp__law_can_right (K : PySem.W.Frag) : Sp := fun vs H Q _ => ∃ n : Int, vs = [.int n] ∧ 1 ≤ n ∧ RetV (.bl true) H Q
theorem ok__law_can_right (T : Tx K mg) : FnOk P w K mg base CX0 4 T.a__law_can_right T.d__law_can_right ["_law_last_here"] (sp__law_can_right K) := by
  refine T.F__law_can_right.ok sc__law_can_right (fun vs H Q E h => ?_) (fun cdv A outer s H vs Q E hr h => ?_)
  · obtain ⟨n, rfl, _⟩ := h
    rfl
  · obtain ⟨n, rfl, h1, k⟩ := h
    refine ⟨_, (pss_cons (ps_set (i := 1) sc__law_can_right.nd rfl (.inl rfl) (pe_call (ok_can T) (hr.mono (by decide)) (by rfl) T.g_can T.F_can.kp T.b_can .nil passLN (pa_cons (pv 0) pa_nil)))
      (pss_cons (ps_if (PW.pt (pw_or (pt_not (pt_val (pe_callB (r := rIsi K) call_isi (by rfl) T.m_isinstance bt_isinstance (pa_cons (pv 1) (pa_cons (pe_glob (v := .ref T.c_Answer) (by rfl) T.g_Answer rfl) pa_nil))))) (pw_or1 (pt_cmpR op_eq (pe_callB (r := rIsi K) call_isi (by rfl) T.m_isinstance bt_isinstance (pa_cons (pv 1) (pa_cons (pe_glob (v := .ref T.c_Can) (by rfl) T.g_Can rfl) pa_nil))) (pe_callB (r := rIsi K) call_isi (by rfl) T.m_isinstance bt_isinstance (pa_cons (pv 1) (pa_cons (pe_glob (v := .ref T.c_Barred) (by rfl) T.g_Barred rfl) pa_nil))) (nomark _))))) (pss_one (ps_ret pe_bl)) pss_nil)
      (pss_cons (ps_if (PW.pt (pw_or (pt_val (pe_callB (r := rIsi K) call_isi (by rfl) T.m_isinstance bt_isinstance (pa_cons (pv 1) (pa_cons (pe_glob (v := .ref T.c_Good) (by rfl) T.g_Good rfl) pa_nil)))) (pw_or (pt_val (pe_callB (r := rIsi K) call_isi (by rfl) T.m_isinstance bt_isinstance (pa_cons (pv 1) (pa_cons (pe_glob (v := .ref T.c_Off) (by rfl) T.g_Off rfl) pa_nil)))) (pw_or1 (pt_cmpR op_ne (pe_callB (r := rIsi K) call_isi (by rfl) T.m_isinstance bt_isinstance (pa_cons (pv 1) (pa_cons (pe_glob (v := .ref T.c_Can) (by rfl) T.g_Can rfl) pa_nil))) (pe_cmpR op_lt (pe_op op_mod (pv 0) pe_int) pe_int (nomark _)) (nomark _)))))) (pss_one (ps_ret pe_bl)) pss_nil)
      (pss_cons (ps_if (pt_cmpR op_isnot_bl (PE.or (pe_meth (pv 1) T.i_Can.cl T.s_Can (ok_Can_shows T) (hr.mono (by decide)) T.b_Can_shows .nil pass0 (pa_cons (pv 0) pa_nil)) (pe_meth (pv 1) T.i_Barred.cl T.s_Barred (ok_Barred_shows T) (hr.mono (by decide)) T.b_Barred_shows .nil pass0 (pa_cons (pv 0) pa_nil))) pe_bl (nomark _)) (pss_one (ps_ret pe_bl)) pss_nil)
      (pss_cons (ps_for PassesOwn.never rfl (pi_range1 (by rfl) T.m_range (pa_cons pe_int pa_nil)) (pg_name (i := 2) sc__law_can_right.nd rfl (Or.inl rfl))
      (pss_cons (ps_set (i := 3) sc__law_can_right.nd rfl (.inl rfl) (pe_cmpR op_lt (pe_op op_mod (pe_op op_add (pv 0) (pv 2)) pe_int) pe_int (nomark _)))
      (pss_cons (ps_set (i := 4) sc__law_can_right.nd rfl (.inl rfl) (pe_lst (pa_cons (pe_meth (pe_new0 T.n_Can (by rfl) T.g_Can) T.i_Can.cl T.s_Can (ok_Can_shows T) (hr.mono (by decide)) T.b_Can_shows .nil pass0 (pa_cons (pe_op op_add (pv 0) (pv 2)) pa_nil) (ht := mcall_of (by first | rfl | exact abase_call (by decide)) (fun _ => rfl))) (pa_cons (pe_meth (pe_new0 T.n_Barred (by rfl) T.g_Barred) T.i_Barred.cl T.s_Barred (ok_Barred_shows T) (hr.mono (by decide)) T.b_Barred_shows .nil pass0 (pa_cons (pe_op op_add (pv 0) (pv 2)) pa_nil) (ht := mcall_of (by first | rfl | exact abase_call (by decide)) (fun _ => rfl))) pa_nil))))
      (pss_cons (ps_if (PW.pt (pw_or (pt_not (pt_val (pe_callB (r := rAll K) (cr_all rfl) (by rfl) T.m_all bt_all (pa_cons (pe_lc (own := [("_law_one", 5)]) (by rfl) sc__law_can_right.nd (pi_list (pv 4)) (blkOk_by (own := [("_law_one", 5)]) (N := N__law_can_right) (sc := defScope s__law_can_right) (by decide +kernel)) (fun _ _ _ _ _ => (pg_name (i := 5) sc__law_can_right.nd rfl (Or.inl rfl))) (fun _ _ _ _ _ => pts_nil) (fun _ _ _ _ _ => (pe_callB (r := rIsi K) call_isi (by rfl) T.m_isinstance bt_isinstance (pa_cons (pv 5) (pa_cons (pe_bltn (v := .ty "bool") (by rfl) T.m_bool bt_bool rfl) pa_nil))))) pa_nil)))) (pw_or1 (pt_cmpR (r := rNeD K) (op_neD hr.units) (pv 4) (pe_lst (pa_cons (pv 3) (pa_cons (pe_not (pv 3)) pa_nil))) (nomark _))))) (pss_one (ps_ret pe_bl)) pss_nil)
      (pss_one (ps_if (pt_cmpR op_ne (PE.or (pe_meth (pv 1) T.i_Can.cl T.s_Can (ok_Can_shows T) (hr.mono (by decide)) T.b_Can_shows .nil pass0 (pa_cons (pe_op op_add (pv 0) (pv 2)) pa_nil)) (pe_meth (pv 1) T.i_Barred.cl T.s_Barred (ok_Barred_shows T) (hr.mono (by decide)) T.b_Barred_shows .nil pass0 (pa_cons (pe_op op_add (pv 0) (pv 2)) pa_nil))) (pe_cmpR op_eq (pv 3) (pe_callB (r := rIsi K) call_isi (by rfl) T.m_isinstance bt_isinstance (pa_cons (pv 1) (pa_cons (pe_glob (v := .ref T.c_Can) (by rfl) T.g_Can rfl) pa_nil))) (nomark _)) (nomark _)) (pss_one (ps_ret pe_bl)) pss_nil))))))
      (pss_one (ps_ret pe_bl))))))), ?_⟩
    refine q_asgQ (eq_can (T := T) (by walk_at "ev") h1) fun v H1 e1 hv => ?_
    obtain ⟨p, rfl, hp⟩ := hv
    generalize hb : decide (n % 4 < 2) = b at hp
    refine q_when (b := false) (et_is (et_or (et_not (et_B (ev_isB (ev_var rfl) hp T.kit_Can_Answer T.kit_Barred_Answer))) fun _ => et_test (ev_op (ev_isB (ev_var rfl) hp T.kit_Can_Can T.kit_Barred_Can) (ev_isB (ev_var rfl) hp T.kit_Can_Barred T.kit_Barred_Barred) (rv_eq rfl))) (by cases b <;> rfl)) (fun z => nomatch z) fun _ H2 e2 => ?_
    have hp2 := hp.ex e2
    refine q_when (b := false) (et_is (et_or (et_B (ev_isB (ev_var rfl) hp2 T.kit_Can_Good T.kit_Barred_Good)) fun _ => et_or (et_B (ev_isB (ev_var rfl) hp2 T.kit_Can_Off T.kit_Barred_Off)) fun _ => et_test (ev_op (ev_isB (ev_var rfl) hp2 T.kit_Can_Can T.kit_Barred_Can) (by walk_at "ev") (rv_ne rfl))) (by rw [hb]; cases b <;> rfl)) (fun z => nomatch z) fun _ H3 e3 => ?_
    have hp3 := hp2.ex e3
    refine q_when (b := false) (et_is (et_test (ev_op (ev_shw (n := n) (ev_var rfl) (ev_var rfl) hp3 (by walk_at "ev") (by walk_at "ev")) ev_c rv_isntB)) (by rw [hb]; cases b <;> rfl)) (fun z => nomatch z) fun _ H4 e4 => ?_
    have hp4 := hp3.ex e4
    refine q_forR1S (n := 5) (by walk_at "ev") (by decide) (fun σ' => ∃ y2 y3 y4, σ' = [some (.int n), some (.ref p), y2, y3, y4, none]) ⟨_, _, _, rfl⟩ ?_ ?_
    · rintro i σ' H' H0 hi e' e0 ⟨y2, y3, y4, rfl⟩
      have hp5 := hp4.ex e'
      refine q_asg (v := .bl (decide ((n + i) % 4 < 2))) (by walk_at "ev") fun H5 e5 => ?_
      generalize hd : decide ((n + i) % 4 < 2) = d
      refine q_asgL (xs := ([d, !d] : List Bool).map V.bl) (el_lst (ea_cons (ev_is (ev_methN (vs := [.int (n + i)]) ei_new rfl (by walk_at "ev") fun p dx H1 _ _ => v_Can_shows) (by rw [hd])) (ea_cons (ev_is (ev_methN (vs := [.int (n + i)]) ei_new rfl (by walk_at "ev") fun p dx H1 _ _ => v_Barred_shows) (by rw [hd])) ea_nil)) (by show 2 ≤ 100000; decide)) fun a H6 ha e6 h6 => ?_
      refine q_when (b := false) (et_is (et_or (et_not (et_B (ev_allN (n := 2) (b := fun _ => true) (el_lcL (xs := ([d, !d] : List Bool).map V.bl) (fun _ => true) (fun _ => .bl true) (ev_var rfl) (sq_of h6) (by show 2 ≤ 40000; decide) (fun _ => rfl) (fun _ _ _ _ _ => et_yes) fun i x H7 e7 hx _ => ?_)))) fun _ => et_test (ev_opL (xs := ([d, !d] : List Bool).map V.bl) (ev_var rfl) (el_lst (ea_cons (ev_var rfl) (ea_cons (ev_notV (ev_var rfl)) ea_nil)) (by show 2 ≤ 100000; decide)) fun q H7 hq e7 => rv_neB (ex_l e7 (sq_of h6)) (sq_of hq))) (by simp)) (fun z => nomatch z) fun _ H7 e7 => ?_
      · obtain ⟨c, _, rfl⟩ := List.mem_map.mp (List.mem_of_getElem? hx)
        exact ev_isi (ea_cons (ev_var rfl) (ea_cons ev_c ea_nil)) (.ty "bool") (.base (.bl c)) (kit_ty (by decide +kernel))
      · have hp7 := ((hp5.ex e5).ex e6).ex e7
        refine s_when (b := false) (et_is (et_test (ev_op (ev_shw (n := n + i) (ev_var rfl) (ev_var rfl) hp7 (by walk_at "ev") (by walk_at "ev")) (ev_op (ev_var rfl) (ev_isB (ev_var rfl) hp7 T.kit_Can_Can T.kit_Barred_Can) (rv_eq rfl)) (rv_ne rfl))) (by rw [hd]; cases b <;> cases d <;> rfl)) (fun z => nomatch z) fun _ H8 e8 => ⟨⟨_, _, _, rfl⟩, (((e0.trans e5).trans e6).trans e7).trans e8⟩
    · rintro σ' H' e' ⟨y2, y3, y4, rfl⟩
      exact s_ret ev_c fun H5 e5 => k H5 (((((e1.trans e2).trans e3).trans e4).trans e').trans e5)
theorem v__law_can_right {n : Int} {H : Hp} (h : 1 ≤ n) : SpV (sp__law_can_right K) [.int n] H (.bl true) := fun _ _ _ q _ => ⟨n, rfl, h, q⟩
/-! ### _law_none_right -/
abbrev isg2 (K : PySem.W.Frag) (C a : Addr) (c : V) : TE := tCB (rIsG K (.ref C) none a) (tCons (tVar 2) (tCons (tC c) tNil))
theorem suite2 (T : Tx K mg) {a : Addr} {σ : L2.St} {H : Hp} {D : Ends} (hs : ∃ x0 x1 x3, σ = [x0, x1, some (.ref a), x3]) (k : ∀ x3 H2, Ex H H2 → D.nx ((σ.set 3 x3)) H2) :
    tSeq (tAsg (tLst (tCons (isg2 K T.c_NoRow a (.ref T.c_BadLast)) (tCons (isg2 K T.c_NoRow a (.ref T.c_BadNumber)) (tCons (isg2 K T.c_NoRow a (.ref T.c_BadPlace)) tNil)))) (gName 3))
      (tIfS (tOr (tNot (tB (isg2 K T.c_NoRow a (.ref T.c_NoRow)))) (tB (tCB (rAny K) (tCons (tOp rCat (tVar 3) (tLst (tCons (isg2 K T.c_NoRow a (.ref T.c_BadRow)) tNil))) tNil)))) (tRet (tC (.bl false))) tNext) D σ H := by
  obtain ⟨x0, x1, x3, rfl⟩ := hs
  refine q_asgL (xs := ([false, false, false] : List Bool).map V.bl) (el_lst (ea_cons (ev_isG T.y_NoRow (ev_var rfl) ev_c (fun _ h => h) T.ke_NoRow_BadLast) (ea_cons (ev_isG T.y_NoRow (ev_var rfl) ev_c (fun _ h => h) T.ke_NoRow_BadNumber) (ea_cons (ev_isG T.y_NoRow (ev_var rfl) ev_c (fun _ h => h) T.ke_NoRow_BadPlace) ea_nil))) (by show 3 ≤ 100000; decide)) fun p H1 hp e1 h1 => ?_
  refine s_when (b := false) (et_is (et_or (et_not (et_B (ev_isG T.y_NoRow (ev_var rfl) ev_c (fun _ h => h) T.ke_NoRow_NoRow))) fun _ => et_B (ev_cbL (xs := ([false, false, false, false] : List Bool).map V.bl) (el_cat (at_old (ev_var rfl) h1) (at_new (el_lst (ea_cons (ev_isG T.y_NoRow (ev_var rfl) ev_c (fun _ h => h) T.ke_NoRow_BadRow) ea_nil) (by show 1 ≤ 100000; decide))) (by show 4 ≤ 100000; decide)) fun q H2 hq e2 H3 e3 Q k => ⟨q, [false, false, false, false], rfl, sq_of (e3 _ _ hq), k H3 (Ex.refl _)⟩)) rfl) (fun z => nomatch z) fun _ H2 e2 => k _ H2 (e1.trans e2)
def sp__law_none_right (K : PySem.W.Frag) : Sp := fun vs H Q _ => ∃ n : Int, vs = [.int n] ∧ 1 ≤ n ∧ 1 < n % 4 ∧ RetV (.bl true) H Q
theorem ok__law_none_right (T : Tx K mg) : FnOk P w K mg base CX0 6 T.a__law_none_right T.d__law_none_right ["_law_last_here"] (sp__law_none_right K) := by
  refine T.F__law_none_right.ok sc__law_none_right (fun vs H Q E h => ?_) (fun cdv A outer s H vs Q E hr h => ?_)
  · obtain ⟨n, rfl, _⟩ := h
    rfl
  · obtain ⟨n, rfl, h1, h4, k⟩ := h
    refine ⟨_, (pss_cons (ps_for PassesOwn.never rfl (pi_range1 (by rfl) T.m_range (pa_cons pe_int pa_nil)) (pg_name (i := 1) sc__law_none_right.nd rfl (Or.inl rfl))
      (pss_one (L2N.ps_try_as (i := 2) (Wout := fun _ _ _ _ => False) rfl rfl sc__law_none_right.nd rfl rfl ⟨rfl, by decide, Or.inl T.g_PairError⟩ takes0N
      (fun W pn xe tk _ => (pss_cons (ps_if (pt_cmpR op_lt (pv 1) pe_int (nomark _)) (pss_one (ps_expr (pe_ifExp (pt_cmpR op_eq (pv 1) pe_int (nomark _)) (pe_callS (ok_places_of T) (hr.mono (by decide)) (by rfl) T.g_places_of T.F_places_of.kp T.b_places_of (fun σ => L2N.passAt tk σ) (pa_cons (pv 0) (pa_cons (pe_op op_sub (pe_op op_mod (pv 0) pe_int) pe_int) pa_nil))) (pe_callS (ok_number_at T) (hr.mono (by decide)) (by rfl) T.g_number_at T.F_number_at.kp T.b_number_at (fun σ => L2N.passAt tk σ) (pa_cons (pv 0) (pa_cons (pe_ifExp (pt_cmpR op_gt (pe_op op_mod (pv 0) pe_int) pe_int (nomark _)) (pe_un un_neg pe_int) pe_non) pa_nil)))))) (pss_one (ps_expr (pe_ifExp (pt_cmpR op_eq (pv 1) pe_int (nomark _)) (pe_callS (ok_three_of T) (hr.mono (by decide)) (by rfl) T.g_three_of T.F_three_of.kp T.b_three_of (fun σ => L2N.passAt tk σ) (pa_cons (pv 0) (pa_cons (pe_op op_sub (pe_op op_mod (pv 0) pe_int) pe_int) pa_nil))) (pe_callS (ok_row T) (hr.mono (by decide)) (by rfl) T.g_row T.F_row.kp T.b_row (fun σ => L2N.passAt tk σ) (pa_cons (pe_op op_add (pe_op op_mul (pe_op op_fdiv (pe_op op_mod (pv 0) pe_int) pe_int) pe_int) pe_int) pa_nil))))))
      (pss_one (ps_ret pe_bl))))
      (fun a oe cls d pn hz hf => (pss_cons (ps_set (i := 3) sc__law_none_right.nd rfl (.inl rfl) (pe_lst (pa_cons (pe_callB (r := rIsG K cls d a) (call_isG hz.zc hf) (by rfl) T.m_isinstance bt_isinstance (pa_cons (pv 2) (pa_cons (pe_glob (v := .ref T.c_BadLast) (by rfl) T.g_BadLast rfl) pa_nil))) (pa_cons (pe_callB (r := rIsG K cls d a) (call_isG hz.zc hf) (by rfl) T.m_isinstance bt_isinstance (pa_cons (pv 2) (pa_cons (pe_glob (v := .ref T.c_BadNumber) (by rfl) T.g_BadNumber rfl) pa_nil))) (pa_cons (pe_callB (r := rIsG K cls d a) (call_isG hz.zc hf) (by rfl) T.m_isinstance bt_isinstance (pa_cons (pv 2) (pa_cons (pe_glob (v := .ref T.c_BadPlace) (by rfl) T.g_BadPlace rfl) pa_nil))) pa_nil)))))
      (pss_one (ps_if (PW.pt (pw_or (pt_not (pt_val (pe_callB (r := rIsG K cls d a) (call_isG hz.zc hf) (by rfl) T.m_isinstance bt_isinstance (pa_cons (pv 2) (pa_cons (pe_glob (v := .ref T.c_NoRow) (by rfl) T.g_NoRow rfl) pa_nil))))) (pw_or1 (pt_val (pe_callB (r := rAny K) (cr_anyH hz hf) (by rfl) T.m_any bt_any (pa_cons (pe_op op_cat (pv 3) (pe_lst (pa_cons (pe_callB (r := rIsG K cls d a) (call_isG hz.zc hf) (by rfl) T.m_isinstance bt_isinstance (pa_cons (pv 2) (pa_cons (pe_glob (v := .ref T.c_BadRow) (by rfl) T.g_BadRow rfl) pa_nil))) pa_nil))) pa_nil)))))) (pss_one (ps_ret pe_bl)) pss_nil)))))))
      (pss_one (ps_ret pe_bl))), ?_⟩
    refine q_forR1S (n := 4) (by walk_at "ev") (by decide) (fun σ' => ∃ y1 y3, σ' = [some (.int n), y1, none, y3]) ⟨_, _, rfl⟩ ?_ ?_
    · rintro i σ' H' H0 hi e' e0 ⟨y1, y3, rfl⟩
      refine q_if (by walk_at "ev") (fun z H1 e1 => ?_) fun z H1 e1 => ?_
      · refine x_if (by walk_at "ev") (fun _ H2 e2 => ?_) fun _ H2 e2 => ?_
        · refine x_callS (vs := [.int n, .int (n % 5 - 1)]) (by walk_at "ev") fun H3 e3 => ⟨_, _, rfl, .inr (.inl (.inr ⟨n, rfl, h1, h4, fun H4 e4 => ?_⟩))⟩
          exact ⟨true, T.em_NoRow, fun _ a0 _ => suite2 T ⟨_, _, _, rfl⟩ fun x3 H5 e5 => ⟨⟨_, _, rfl⟩, ((((e0.trans e1).trans e2).trans e3).trans e4).trans e5⟩, fun z => nomatch z⟩
        · refine x_callS (vs := [.int n, if decide (0 < n % 3) = true then .int (-1) else .non]) (ea_cons (ev_var rfl) (ea_cons (ev_ifV (by walk_at "ev") (fun _ => by walk_at "ev") fun _ => ev_c) ea_nil)) fun H3 e3 => ⟨_, _, rfl, .inr (.inl (.inr ⟨n, rfl, h1, h4, fun H4 e4 => ?_⟩))⟩
          exact ⟨true, T.em_NoRow, fun _ a0 _ => suite2 T ⟨_, _, _, rfl⟩ fun x3 H5 e5 => ⟨⟨_, _, rfl⟩, ((((e0.trans e1).trans e2).trans e3).trans e4).trans e5⟩, fun z => nomatch z⟩
      · refine x_if (by walk_at "ev") (fun _ H2 e2 => ?_) fun _ H2 e2 => ?_
        · refine x_callS (vs := [.int n, .int (n % 3 - 1)]) (by walk_at "ev") fun H3 e3 => ⟨_, _, rfl, .inr (.inl (.inr ⟨n, rfl, h1, h4, fun H4 e4 => ?_⟩))⟩
          exact ⟨true, T.em_NoRow, fun _ a0 _ => suite2 T ⟨_, _, _, rfl⟩ fun x3 H5 e5 => ⟨⟨_, _, rfl⟩, ((((e0.trans e1).trans e2).trans e3).trans e4).trans e5⟩, fun z => nomatch z⟩
        · refine x_callS (vs := [.int (n % 100 / 4 * 4 + 2)]) (by walk_at "ev") fun H3 e3 => ⟨_, rfl, .inr (.inr ⟨_, rfl, by omega, by omega, by omega, fun H4 e4 => ?_⟩)⟩
          exact ⟨true, T.em_NoRow, fun _ a0 _ => suite2 T ⟨_, _, _, rfl⟩ fun x3 H5 e5 => ⟨⟨_, _, rfl⟩, ((((e0.trans e1).trans e2).trans e3).trans e4).trans e5⟩, fun z => nomatch z⟩
    · rintro σ' H' e' ⟨y1, y3, rfl⟩
      exact s_ret ev_c fun H5 e5 => k H5 (e'.trans e5)
theorem v__law_none_right {n : Int} {H : Hp} (h : 1 ≤ n) (h4 : 1 < n % 4) : SpV (sp__law_none_right K) [.int n] H (.bl true) := fun _ _ _ q _ => ⟨n, rfl, h, h4, q⟩
end
end PA

set_option Elab.async false
set_option linter.all false
set_option maxRecDepth 100000
set_option maxHeartbeats 4000000
namespace PA
open PySem PySem.Spec PyProof.Rows L2 Evl
local macro_rules | `(tactic| walk_at "ev") => `(tactic| repeat' (first | (with_reducible exact ev_c) | (with_reducible refine' ev_var ?_) | (show _ = some (some _); rfl) | (with_reducible exact ea_nil) | (with_reducible refine' ea_cons ?_ ?_) | (with_reducible refine' ev_abs ?_) | (with_reducible refine' ev_op ?_ ?_ ?_) | (with_reducible exact rv_I0) | (exact rv_mulL (by decide)) | (exact rv_mulR (by decide)) | (exact rv_div (by decide)) | (exact rv_mod (by decide)) | (exact rv_pow (by decide)) | (with_reducible refine' ev_un ?_ ?_) | (with_reducible exact ru_neg) | (exact rv_eq rfl) | (exact rv_ne rfl) | (with_reducible refine' et_test ?_) | (with_reducible refine' et_B ?_) | (exact ev_c) | (exact rv_I0) | (exact ru_neg) | (exact ea_nil) | (refine' ea_cons ?_ ?_)))
section
variable {P : Program} {w : World} {K : PySem.W.Frag} {mg : Str → Option Value} {base : Heap}
/-- over range(n), at a block's end -/
theorem s_forR1S4 {ta : TA} {j : Nat} {n : Int} {σ : L2.St} {H : Hp} {D : Ends} {tu : TS} (h : EvA ta σ H [.int n]) (hn : 0 ≤ n ∧ n ≤ 100000) (S : L2.St → Prop) (h0 : S σ)
    (hs : ∀ (i : Nat) σ' H' H0, (i : Int) < n → Ex H H' → Ex H0 H' → S σ' → tu { D with nx := fun σ2 H2 => S σ2 ∧ Ex H0 H2, ct := fun σ2 H2 => S σ2 ∧ Ex H0 H2, bk := D.nx } (σ'.set j (some (.int (i : Int)))) H') (hd : ∀ σ' H', Ex H H' → S σ' → D.nx σ' H') : tFor (iRng1 ta) (gName j) tu D σ H :=
  s_forR1 h hn (fun _ σ' H' => S σ' ∧ Ex H H') (fun H1 e => ⟨h0, e⟩) (fun i σ' H' hi w => hs i σ' H' H hi w.2 w.2 w.1) fun σ' H' w => hd σ' H' w.2 w.1
theorem q_forN2 {xs : List V} {tl : TE} {j : Nat} {σ : L2.St} {H : Hp} {D : Ends} {tu tz : TS} (h : EvL tl σ H xs) (S : L2.St → Prop) (h0 : S σ)
    (hs : ∀ x σ' H' H0, Ex H H' → Ex H0 H' → x ∈ xs → S σ' → tu { D with nx := fun σ2 H2 => S σ2 ∧ Ex H0 H2, ct := fun σ2 H2 => S σ2 ∧ Ex H0 H2, bk := tz D } (σ'.set j (some x)) H') (hd : ∀ σ' H', Ex H H' → S σ' → tz D σ' H') : tSeq (tFor (iList K tl) (gName j) tu) tz D σ H := s_forN (D := { D with nx := tz D }) h S h0 hs hd
theorem q_forE {a : Addr} {xs : List V} {tl : TE} {σ : L2.St} {H : Hp} {D : Ends} {tu tz : TS} {j1 j2 : Nat} (h : Ev tl σ H (.ref a)) (hx0 : SqL K H a xs) (Pv : Nat → L2.St → Hp → Prop) (h0 : ∀ H1, Ex H H1 → Pv 0 σ H1) (hl : ∀ i σ' H', i ≤ xs.length → Pv i σ' H' → SqL K H' a xs)
    (hn : ∀ i σ' H' T o, Pv i σ' H' → H' T = none → Pv i σ' (upd H' T o)) (hs : ∀ i x σ' H', xs[i]? = some x → Pv i σ' H' → tu { D with nx := Pv (i + 1), ct := Pv (i + 1), bk := tz D } ((σ'.set j1 (some (.int (i : Nat)))).set j2 (some x)) H')
    (hd : ∀ σ' H', Pv xs.length σ' H' → tz D σ' H') : tSeq (tFor (iEnum K (tCons tl tNil)) (gTup K 2 (gCons (gName j1) (gCons (gName j2) gNil))) tu) tz D σ H := s_forE (D := { D with nx := tz D }) h hx0 Pv h0 hl hn hs hd
def sp_law (K : PySem.W.Frag) : Sp := fun vs H Q _ => ∃ (a : Addr) (ns : List Int), vs = [.ref a] ∧ SqL K H a (ns.map V.int) ∧ ns.length ≤ 63 ∧ (∀ z ∈ ns, Builtin.Int.intBits z ≤ 1048576) ∧ ∀ H', Q (.bl true) H'
theorem ok_law (T : Tx K mg) : FnOk P w K mg base CX0 7 T.a_law T.d_law ["_law_script"] (sp_law K) := by
  refine T.F_law.ok sc_law (fun vs H Q E h => ?_) (fun cdv A outer s H vs Q E hr h => ?_)
  · obtain ⟨a, ns, rfl, _⟩ := h
    rfl
  · obtain ⟨a, ns, rfl, hS, hlen, hbits, k⟩ := h
    have hu := hu_of hr
    refine ⟨_, (pss_cons (ps_set (i := 1) sc_law.nd rfl (.inl rfl) (pe_callB (r := rSum K) (cr_sum rfl) (by rfl) T.m_sum bt_sum (pa_cons (pe_slice (r := rSlL K) sl_list (pv 0) po_none (po_some pe_int)) pa_nil)))
      (pss_cons (ps_for PassesOwn.never rfl (pi_range3 (by rfl) T.m_range (pa_cons pe_int (pa_cons (pe_callB (call_min2 rfl) (by rfl) T.m_min bt_min (pa_cons pe_int (pa_cons (pe_callB (r := rLenS K) call_len_seq (by rfl) T.m_len bt_len (pa_cons (pv 0) pa_nil)) pa_nil))) (pa_cons (pe_op op_add pe_int (pe_op op_fdiv (pe_callB (r := rLenS K) call_len_seq (by rfl) T.m_len bt_len (pa_cons (pv 0) pa_nil)) pe_int)) pa_nil)))) (pg_name (i := 2) sc_law.nd rfl (Or.inl rfl))
      (pss_cons (ps_set (i := 3) sc_law.nd rfl (.inr rfl) (pe_call (ok__law_last T) (hr.mono (by decide)) (by rfl) T.g__law_last T.F__law_last.kp T.b__law_last .nil pass0 (pa_cons (pv 0) (pa_cons (pv 2) pa_nil))))
      (pss_one (ps_for PassesOwn.never rfl (pi_range1 (by rfl) T.m_range (pa_cons pe_int pa_nil)) (pg_name (i := 4) sc_law.nd rfl (Or.inl rfl))
      (pss_cons (ps_if (pt_not (pt_val (pe_call (ok__law_can_right T) (hr.mono (by decide)) (by rfl) T.g__law_can_right T.F__law_can_right.kp T.b__law_can_right .nil pass0 (pa_cons (pe_op op_add (pv 3) (pv 4)) pa_nil)))) (pss_one (ps_ret pe_bl)) pss_nil)
      (pss_one (ps_if (PW.pt (pw_and (pt_cmpR op_gt (pe_op op_mod (pe_op op_add (pv 3) (pv 4)) pe_int) pe_int (nomark _)) (pw_and1 (pt_not (pt_val (pe_call (ok__law_none_right T) (hr.mono (by decide)) (by rfl) T.g__law_none_right T.F__law_none_right.kp T.b__law_none_right .nil pass0 (pa_cons (pe_op op_add (pv 3) (pv 4)) pa_nil))))))) (pss_one (ps_ret pe_bl)) pss_nil)))))))
      (pss_cons (ps_for PassesOwn.never rfl (pi_list (pe_lst (pa_cons (pe_op op_add pe_int (pe_op op_mul (pe_op op_mod (pv 1) pe_int) pe_int)) (pa_cons (pe_op op_add pe_int (pe_op op_mul (pe_op op_mod (pe_op op_fdiv (pv 1) pe_int) pe_int) pe_int)) pa_nil)))) (pg_name (i := 3) sc_law.nd rfl (Or.inr rfl))
      (pss_cons (ps_set (i := 5) sc_law.nd rfl (.inl rfl) (pe_call (ok_row T) (hr.mono (by decide)) (by rfl) T.g_row T.F_row.kp T.b_row .nil passLN (pa_cons (pv 3) pa_nil)))
      (pss_cons (ps_if (PW.pt (pw_or (pt_not (pt_val (pe_callB (r := rIsi K) call_isi (by rfl) T.m_isinstance bt_isinstance (pa_cons (pv 5) (pa_cons (pe_bltn (v := .ty "list") (by rfl) T.m_list bt_list rfl) pa_nil))))) (pw_or (pt_cmpR op_ne (pe_callB (r := rLenS K) call_len_seq (by rfl) T.m_len bt_len (pa_cons (pv 5) pa_nil)) (pe_op op_mul pe_int (pv 3)) (nomark _)) (pw_or1 (pt_not (pt_val (pe_callB (r := rAll K) (cr_all rfl) (by rfl) T.m_all bt_all (pa_cons (pe_lc (own := [("_law_one", 8)]) (by rfl) sc_law.nd (pi_list (pv 5)) (blkOk_by (own := [("_law_one", 8)]) (N := N_law) (sc := defScope s_law) (by decide +kernel)) (fun _ _ _ _ _ => (pg_name (i := 8) sc_law.nd rfl (Or.inl rfl))) (fun _ _ _ _ _ => pts_nil) (fun _ _ _ _ _ => (pe_call (ok__law_whole T) (hr.mono (by decide)) (by rfl) T.g__law_whole T.F__law_whole.kp T.b__law_whole .nil pass0 (pa_cons (pv 8) pa_nil)))) pa_nil)))))))) (pss_one (ps_ret pe_bl)) pss_nil)
      (pss_cons (ps_set (i := 6) sc_law.nd rfl (.inr rfl) pe_dnewK)
      (pss_cons (ps_for PassesOwn.never rfl (pi_enum (by rfl) T.m_enumerate (pa_cons (pv 5) pa_nil)) (pg_tup rfl (pgs_cons (pg_name (i := 7) sc_law.nd rfl (Or.inl rfl)) (pgs_cons (pg_name (i := 8) sc_law.nd rfl (Or.inl rfl)) pgs_nil)))
      (pss_one (ps_asg (pe_op op_cat (pe_dget2 hu (pv 6) (pv 8) (pe_lst pa_nil) ⟨rfl, by rfl, rfl, rfl⟩) (pe_lst (pa_cons (pv 7) pa_nil))) (pg_sub (pv 6) (pv 8) (set_dict hu)))))
      (pss_cons (ps_if (pt_cmpR (r := rNeD K) (op_neD hr.units) (pe_callB (r := rSortedD) (cr_sortedD rfl) (by rfl) T.m_sorted bt_sorted (pa_cons (pv 6) pa_nil)) (pe_listRg (by rfl) (by rfl) T.m_list (prg_2 (by rfl) T.m_range pe_int (pe_op op_add (pv 3) pe_int))) (nomark _)) (pss_one (ps_ret pe_bl)) pss_nil)
      (pss_cons (ps_if (pt_not (pt_val (pe_callB (r := rAll K) (cr_all rfl) (by rfl) T.m_all bt_all (pa_cons (pe_lock (pe_lc (own := [("_law_one", 8)]) (by rfl) sc_law.nd (pi_keys (pv 6)) (blkOk_by (own := [("_law_one", 8)]) (N := N_law) (sc := defScope s_law) (by decide +kernel)) (fun _ _ _ _ _ => (pg_name (i := 8) sc_law.nd rfl (Or.inl rfl))) (fun _ _ _ _ _ => pts_nil) (fun _ _ _ _ _ => (pe_and (pe_cmpR op_eq (pe_callB (r := rLenS K) call_len_seq (by rfl) T.m_len bt_len (pa_cons (pe_dget hu (pv 6) (pv 8) (fun _ _ => rfl)) pa_nil)) pe_int (nomark _)) (pe_one (pe_cmpR op_eq (pe_op op_sub (pe_ix (r := rIxL K) ix_list (pe_dget hu (pv 6) (pv 8) (fun _ _ => rfl)) pe_int (fun _ _ => rfl)) (pe_ix (r := rIxL K) ix_list (pe_dget hu (pv 6) (pv 8) (fun _ _ => rfl)) pe_int (fun _ _ => rfl))) (pv 8) (nomark _))))))) pa_nil)))) (pss_one (ps_ret pe_bl)) pss_nil)
      (pss_cons (ps_if (pt_cmpR (r := rNeD K) (op_neD hr.units) (pv 5) (pe_lc (own := [("_law_place", 7)]) (by rfl) sc_law.nd (pi_range1 (by rfl) T.m_range (pa_cons (pe_op op_mul pe_int (pv 3)) pa_nil)) (blkOk_by (own := [("_law_place", 7)]) (N := N_law) (sc := defScope s_law) (by decide +kernel)) (fun _ _ _ _ _ => (pg_name (i := 7) sc_law.nd rfl (Or.inl rfl))) (fun _ _ _ _ _ => pts_nil) (fun _ _ _ _ _ => (pe_call (ok_number_at T) (hr.mono (by decide)) (by rfl) T.g_number_at T.F_number_at.kp T.b_number_at .nil passLN (pa_cons (pv 3) (pa_cons (pv 7) pa_nil))))) (nomark _)) (pss_one (ps_ret pe_bl)) pss_nil)
      (pss_cons (ps_expr (pe_bm PySem.F.plainAttrs_list PySem.F.slot_list_append PySem.F.type_list_append mt_append (pv 5) (pa_cons pe_int pa_nil)))
      (pss_one (ps_if (pt_cmpR (r := rNeD K) (op_neD hr.units) (pe_call (ok_row T) (hr.mono (by decide)) (by rfl) T.g_row T.F_row.kp T.b_row .nil passLN (pa_cons (pv 3) pa_nil)) (pe_slice (r := rSlL K) sl_list (pv 5) po_none (po_some (pe_un un_neg pe_int))) (nomark _)) (pss_one (ps_ret pe_bl)) pss_nil)))))))))))
      (pss_one (ps_ret (pe_and (pe_cmpR (r := rEqD K) (op_eqD hr.units) (pe_call (ok_row T) (hr.mono (by decide)) (by rfl) T.g_row T.F_row.kp T.b_row .nil passLN (pa_cons pe_int pa_nil)) (pe_lst (pa_cons pe_int (pa_cons pe_int pa_nil))) (nomark _)) (pe_one (pe_callB (r := rAll K) (cr_all rfl) (by rfl) T.m_all bt_all (pa_cons (pe_lc (own := [("_law_last_here", 3)]) (by rfl) sc_law.nd (pi_range2 (by rfl) T.m_range (pa_cons pe_int (pa_cons pe_int pa_nil))) (blkOk_by (own := [("_law_last_here", 3)]) (N := N_law) (sc := defScope s_law) (by decide +kernel)) (fun _ _ _ _ _ => (pg_name (i := 3) sc_law.nd rfl (Or.inl rfl))) (fun _ _ _ _ _ => pts_nil) (fun _ _ _ _ _ => (pe_call (ok__law_can_right T) (hr.mono (by decide)) (by rfl) T.g__law_can_right T.F__law_can_right.kp T.b__law_can_right .nil pass0 (pa_cons (pv 3) pa_nil)))) pa_nil))))))))), ?_⟩
    have cut : cutV (ns.map V.int) none (some 63) = ns.map V.int := cut_all (by rw [List.length_map]; exact hlen)
    refine q_asg (v := .int ns.sum) (ev_cbL (xs := ns.map V.int) (el_is (el_sl (ev_var rfl) eo_none (eo_some ev_c) hS) cut) fun p H1 h1 e1 => rc_sum (sq_of h1)) fun H1 e1 => ?_
    have S1 := ex_l e1 hS
    have el : (((ns.map V.int).length : Nat) : Int) = (ns.length : Int) := by rw [List.length_map]
    refine q_forR3 (hi := if ((ns.map V.int).length : Int) < 63 then ((ns.map V.int).length : Int) else 63) (c := 1 + ((ns.map V.int).length : Int) / 12)
      (ea_cons ev_c (ea_cons (ev_min2 ev_c (ev_len (ev_var rfl) S1)) (ea_cons (ev_op ev_c (ev_op (ev_len (ev_var rfl) S1) ev_c (rv_div (by decide))) rv_I0) ea_nil))) (by split <;> omega) (by split <;> omega) (by omega) (by omega)
      (fun σ' H' => (∃ y2 y3 y4, σ' = [some (.ref a), some (.int ns.sum), y2, y3, y4, none, none, none, none]) ∧ Ex H H') (fun H2 e2 => ⟨⟨_, _, _, rfl⟩, e1.trans e2⟩) ?_ ?_
    · rintro i σ' H' h0 hi ⟨⟨y2, y3, y4, rfl⟩, e'⟩
      have hi2 : i < ns.length ∧ i < 63 := by
        rw [el] at hi
        split at hi <;> omega
      have S' := ex_l e' hS
      have hl := lawLast_can ns i
      refine q_asg (ev_call (vs := [.ref a, .int i]) (by walk_at "ev") (v__law_last S' hlen hbits h0 (by omega))) fun H2 e2 => ?_
      generalize lawLast ns i = l at hl
      have l1 := hl.1
      refine s_forR1S4 (n := 4) (by walk_at "ev") (by decide) (fun σ' => ∃ y4, σ' = [some (.ref a), some (.int ns.sum), some (.int i), some (.int l), y4, none, none, none, none]) ⟨_, rfl⟩ ?_ ?_
      · rintro m σ2 H3 H0 hm e3 e0 ⟨y4, rfl⟩
        refine q_when (b := false) (et_is (et_not (et_B (ev_call (vs := [.int (l + m)]) (by walk_at "ev") (v__law_can_right (by omega))))) rfl) (fun z => nomatch z) fun _ H4 e4 => ?_
        refine s_when (b := false) (et_is (et_and (b := !true) (by walk_at "ev") fun z => et_not (et_B (ev_call (vs := [.int (l + m)]) (by walk_at "ev") (v__law_none_right (by omega) (of_decide_eq_true z))))) (by simp)) (fun z => nomatch z) fun _ H5 e5 => ⟨⟨_, rfl⟩, (e0.trans e4).trans e5⟩
      · rintro σ2 H3 e3 ⟨y4, rfl⟩
        exact ⟨⟨_, _, _, rfl⟩, (e'.trans e2).trans e3⟩
    · rintro σ' H' ⟨⟨y2, y3, y4, rfl⟩, e'⟩
      generalize ns.sum = S
      refine q_forN2 (K := K) (xs := ([1 + S % 25 * 4, 4 + S / 25 % 25 * 4] : List Int).map V.int) (el_lst (by walk_at "ev") (by show 2 ≤ 100000; decide)) (fun σ' => ∃ y2 y3 y4 y5 y6 y7 y8, σ' = [some (.ref a), some (.int S), y2, y3, y4, y5, y6, y7, y8]) ⟨_, _, _, _, _, _, _, rfl⟩ ?_ ?_
      · rintro x σ2 H2 H0 e2 e0 hx ⟨y2, y3, y4, y5, y6, y7, y8, rfl⟩
        obtain ⟨l, hcan, h100, rfl⟩ : ∃ l : Int, Can l ∧ l ≤ 100 ∧ x = .int l := by
          obtain ⟨l, hm, rfl⟩ := List.mem_map.mp hx
          refine ⟨l, ?_, ?_, rfl⟩
          · unfold Can
            rcases List.mem_cons.mp hm with rfl | hm
            · omega
            · rw [List.mem_singleton.mp hm]
              omega
          · rcases List.mem_cons.mp hm with rfl | hm
            · omega
            · rw [List.mem_singleton.mp hm]
              omega
        have l1 := hcan.1
        have rl := rowL_len l
        refine q_asgL (el_call (vs := [.int l]) (by walk_at "ev") (v_row (T := T) hcan h100)) fun f H3 hf e3 h3 => ?_
        change tSeq _ _ _ [some (.ref a), some (.int S), y2, some (.int l), y4, some (.ref f), y6, y7, y8] _
        refine q_when (b := false) (et_is (et_or (et_not (et_B (ev_isi (b := true) (ea_cons (ev_var rfl) (ea_cons ev_c ea_nil)) (.ty "list") (.base (.lst h3)) (kit_ty (by decide +kernel))))) fun _ => et_or (et_test (ev_op (ev_lenI (ev_var rfl) (sq_of h3)) (by walk_at "ev") (rv_ne rfl))) fun _ => et_not (et_B (ev_allN (n := ((rowL l).map V.int).length) (b := fun _ => true) (el_lcL (fun _ => true) (fun _ => .bl true) (ev_var rfl) (sq_of h3) (by rw [List.length_map]; omega) (fun _ => rfl) (fun _ _ _ _ _ => et_yes) fun i x H7 e7 hx _ => ?_)))) ?_) (fun z => nomatch z) fun _ H4 e4 => ?_
        · obtain ⟨c, _, rfl⟩ := List.mem_map.mp (List.mem_of_getElem? hx)
          exact ev_call (vs := [.int c]) (by walk_at "ev") v__law_whole
        · have e : V.int ((rowL l).length : Int) = V.int (2 * l) := by
            rw [rl, show (((2 * l).toNat : Nat) : Int) = 2 * l by omega]
          rw [decide_eq_true e]
          simp
        · refine fun d hd => ?_
          have hf0 : H2 f = none := hf
          have hd0 : H2 d = none := fresh_back (e3.trans e4) hd
          change tSeq _ _ _ [some (.ref a), some (.int S), y2, some (.int l), y4, some (.ref f), some (.ref d), y7, y8] _
          have e24 := e3.trans e4
          have h4 : H4 f = some (.lst ((rowL l).map V.int)) := e4 _ _ h3
          have nfd : f ≠ d := fun z => by
            rw [z, hd] at h4
            cases h4
          refine q_forE (K := K) (a := f) (xs := (rowL l).map V.int) (ev_var rfl) (sq_of (by rw [upd_ne nfd]; exact h4)) (fun i σ' H' => (∃ y7 y8, σ' = [some (.ref a), some (.int S), y2, some (.int l), y4, some (.ref f), some (.ref d), y7, y8]) ∧ Ex H2 H' ∧ H' f = some (.lst ((rowL l).map V.int)) ∧ ∃ kvs, H' d = some (.dK kvs) ∧ Seen (rowL l) i kvs H')
            (fun H5 e5 => ⟨⟨_, _, rfl⟩, (e24.trans (Ex.new hd)).trans e5, e5 _ _ (by rw [upd_ne nfd]; exact h4), [], e5 _ _ upd_same, seen_nil⟩) (fun i σ' H' _ h => sq_of h.2.2.1)
            (fun i σ' H' T o h hT => by
              obtain ⟨hσ, he, hf', kvs, hd', hs⟩ := h
              exact ⟨hσ, he.trans (Ex.new hT), (Ex.new hT) _ _ hf', kvs, (Ex.new hT) _ _ hd', hs.ex (Ex.new hT)⟩) ?_ ?_
          · rintro i x σ' H' hi ⟨⟨y7, y8, rfl⟩, e5, hf5, kvs, hd5, hs5⟩
            have il : i < (rowL l).length := by
              have := lt_of hi
              rwa [List.length_map] at this
            rw [getD_of hi]
            refine s_seen (i := i) hd5 hs5 rfl (by omega) (fun _ => ev_var rfl) (fun _ => ev_var rfl) (fun _ => ev_var rfl) (fun _ => ev_var rfl) (fun _ => ev_var rfl) fun kvs' H6 h6 hd6 hs6 => ⟨⟨_, _, rfl⟩, ex_but e5 hd0 h6, h6 _ _ nfd hf5, kvs', hd6, hs6⟩
          · rintro σ' H' ⟨⟨y7, y8, rfl⟩, e5, hf5, kvs, hd5, hs5⟩
            rw [List.length_map] at hs5
            refine q_when (b := false) (et_is (et_test (ev_opLL (el_seen (K := K) hcan h100 hd5 hs5 (ev_var rfl)) (el_listRgN (i := 1) (j := l + 1) (by walk_at "ev") (by walk_at "ev") (by decide) (by decide) (by omega) (by omega)) fun p q H6 hp hq e6 => rv_neL (sq_of hp) (sq_of hq))) (by simp)) (fun z => nomatch z) fun _ H6 e6 => ?_
            have hd6 := e6 _ _ hd5
            have hs6 := hs5.ex e6
            refine q_when (b := false) (et_is (et_not (et_B (ev_allN (n := kvs.length) (b := fun _ => true) (el_keys (fun _ => .bl true) hd6 (fun _ => ev_var rfl) (by have := hs6.1; omega) (fun _ => rfl) fun i kk w H7 hk hb hr => ?_)))) (by simp)) (fun z => nomatch z) fun _ H7 e7 => ?_
            · obtain ⟨_, ks, hks, _, hm, hv⟩ := hs6
              have hkk : (ks.map Sum.inl : List Key)[i]? = some kk := by
                rw [← hks, List.getElem?_map, hk]
                rfl
              obtain ⟨n, hn, rfl⟩ := List.mem_map.mp (List.mem_of_getElem? hkk)
              obtain ⟨q, hq1, hq2⟩ := hv n hn
              have hrg := (seen_keys hcan hm n).mp hn
              rw [occ_row hcan hrg.1 hrg.2] at hq2
              have hq7 := hb q _ (fun z => by rw [z, hd6] at hq2; cases hq2) hq2
              have get : ∀ {σ : L2.St}, σ[6]? = some (some (.ref d)) → σ[8]? = some (some (.int n)) → Ev (tDGet (tVar 6) (tVar 8)) σ H7 (.ref q) := fun h6 h8 => ev_dgetR hr (fun _ => ev_var h6) (fun _ => ev_var h8) hq1
              refine ev_is (ev_andV (ev_op (ev_lenI (get rfl rfl) (sq_of hq7)) ev_c (rv_eq rfl)) fun _ => ev_op (ev_op (ev_op (get rfl rfl) ev_c (rv_ixL (sq_of hq7) (atI_nat (j := 1) rfl))) (ev_op (get rfl rfl) ev_c (rv_ixL (sq_of hq7) (atI_nat (j := 0) rfl))) rv_I0) (ev_var rfl) (rv_eq rfl)) ?_
              rw [show fst l n + n - fst l n = n by omega, decide_eq_true (p := V.int n = kV (Sum.inl n)) rfl]
              rfl
            · have hf7 := e7 _ _ (e6 _ _ hf5)
              refine q_when (b := false) (et_is (et_test (ev_opL (xs := (rowL l).map V.int) (ev_var rfl) (el_is (el_lcR1 (n := 2 * l) (fun _ => true) (fun i => .int (num l (i : Nat))) (by walk_at "ev") (by omega) (fun _ => rfl) (fun _ _ _ _ => et_yes) fun i H8 e8 hi _ => ev_call (vs := [.int l, .int i]) (by walk_at "ev") (v_number_at (T := T) hcan (by omega) (by omega))) ?_) fun p H8 hp e8 => rv_neL (ex_l e8 (sq_of hf7)) (sq_of hp))) (by simp)) (fun z => nomatch z) fun _ H8 e8 => ?_
              · rw [given_all]
                unfold rowL
                rw [List.map_map]
                rfl
              · refine q_app (e8 _ _ hf7) (ev_var rfl) ev_c (by rw [List.length_map]; omega) fun H9 e9 => ?_
                refine s_when (b := false) (et_is (et_test (ev_opLL (xs := (rowL l).map V.int) (ys := (rowL l).map V.int) (el_call (vs := [.int l]) (by walk_at "ev") (v_row (T := T) hcan h100)) (el_is (el_sl (ev_var rfl) eo_none (eo_some (by walk_at "ev")) (sq_of upd_same)) (cut_init _ _)) fun p q H10 hp hq e10 => rv_neL (sq_of hp) (sq_of hq))) (by simp)) (fun z => nomatch z) fun _ H10 e10 => ⟨⟨_, _, _, _, _, _, _, rfl⟩, e0.trans ((Ex.mut ((((e5.trans e6).trans e7).trans e8).trans e9) hf0).trans e10)⟩
      · rintro σ2 H2 e2 ⟨y2, y3, y4, y5, y6, y7, y8, rfl⟩
        refine s_ret (v := .bl true) (ev_is (ev_andV (ev_opLL (xs := (rowL 1).map V.int) (ys := ([1, 1] : List Int).map V.int) (el_call (vs := [.int 1]) (by walk_at "ev") (v_row (T := T) (by unfold Can; decide) (by decide))) (el_lst (by walk_at "ev") (by show 2 ≤ 100000; decide)) fun p q H3 hp hq e3 => rv_eqL (sq_of hp) (sq_of hq)) fun _ => ev_allN (n := (9 - 1 : Int).toNat) (b := fun _ => true) (el_lcR2 (lo := 1) (n := 9) (fun _ => true) (fun _ => .bl true) (by walk_at "ev") (by decide) (fun _ => rfl) (fun _ _ _ _ => et_yes) fun i H3 e3 hi _ => ev_call (vs := [.int (1 + i)]) (by walk_at "ev") (v__law_can_right (by omega)))) ?_) fun H3 _ => k H3
        rw [decide_eq_true (p := rowL 1 = [1, 1]) (by decide +kernel)]
        rfl
end
end PA

set_option Elab.async false
set_option linter.all false
set_option maxRecDepth 100000
set_option maxHeartbeats 4000000
namespace PA
open PySem PySem.Spec PyProof.Rows L2 Evl
def all_tx {K : PySem.W.Frag} {h : Heap} {mg : Str → Option Value} {e_Answer e_Can e_Barred e_Good e_Off e_PairError e_BadLast e_BadNumber e_BadPlace e_BadRow e_NoRow f_Can_shows f_Barred_shows f_is_right f_Good_shows f_Off___init__ f_Off_shows f_is_number f_asked_last f_can f_asked_row f_first_by_fours f_first_by_ones f_first_of f_both f_places_of f_at_place f_number_at f_row f_three_by f_three_of f__law_number f__law_last f__law_whole f__law_can_right f__law_none_right f_law e_FIRSTS e_F1 e_F4 e_F5 : Addr} {t_GREATEST t_F1 t_F4 t_F5 t_Fa0 t_Fa1 t_Fa2 t_Fa3 t_Fa4 t_Fa5 t_Fa6 t_Fa7 t_Fa8 t_Fa9 : Tok} (X : K.In h) (G : h.Ns mainGlobals mg)
    {oc_Can_shows kV_Can_shows dc_Can_shows pm_Can_shows cd_Can_shows ct_Can_shows : Value} {od_Can_shows an_Can_shows : Option Addr} {sl_Can_shows : Array (Option Value)}
    {oc_Barred_shows kV_Barred_shows dc_Barred_shows pm_Barred_shows cd_Barred_shows ct_Barred_shows : Value} {od_Barred_shows an_Barred_shows : Option Addr} {sl_Barred_shows : Array (Option Value)}
    {oc_is_right kV_is_right dc_is_right pm_is_right cd_is_right ct_is_right : Value} {od_is_right an_is_right : Option Addr} {sl_is_right : Array (Option Value)}
    {oc_Good_shows kV_Good_shows dc_Good_shows pm_Good_shows cd_Good_shows ct_Good_shows : Value} {od_Good_shows an_Good_shows : Option Addr} {sl_Good_shows : Array (Option Value)}
    {oc_Off___init__ kV_Off___init__ dc_Off___init__ pm_Off___init__ cd_Off___init__ ct_Off___init__ : Value} {od_Off___init__ an_Off___init__ : Option Addr} {sl_Off___init__ : Array (Option Value)}
    {oc_Off_shows kV_Off_shows dc_Off_shows pm_Off_shows cd_Off_shows ct_Off_shows : Value} {od_Off_shows an_Off_shows : Option Addr} {sl_Off_shows : Array (Option Value)}
    {oc_is_number kV_is_number dc_is_number pm_is_number cd_is_number ct_is_number : Value} {od_is_number an_is_number : Option Addr} {sl_is_number : Array (Option Value)}
    {oc_asked_last kV_asked_last dc_asked_last pm_asked_last cd_asked_last ct_asked_last : Value} {od_asked_last an_asked_last : Option Addr} {sl_asked_last : Array (Option Value)}
    {oc_can kV_can dc_can pm_can cd_can ct_can : Value} {od_can an_can : Option Addr} {sl_can : Array (Option Value)}
    {oc_asked_row kV_asked_row dc_asked_row pm_asked_row cd_asked_row ct_asked_row : Value} {od_asked_row an_asked_row : Option Addr} {sl_asked_row : Array (Option Value)}
    {oc_first_by_fours kV_first_by_fours dc_first_by_fours pm_first_by_fours cd_first_by_fours ct_first_by_fours : Value} {od_first_by_fours an_first_by_fours : Option Addr} {sl_first_by_fours : Array (Option Value)}
    {oc_first_by_ones kV_first_by_ones dc_first_by_ones pm_first_by_ones cd_first_by_ones ct_first_by_ones : Value} {od_first_by_ones an_first_by_ones : Option Addr} {sl_first_by_ones : Array (Option Value)}
    {oc_first_of kV_first_of dc_first_of pm_first_of cd_first_of ct_first_of : Value} {od_first_of an_first_of : Option Addr} {sl_first_of : Array (Option Value)}
    {oc_both kV_both dc_both pm_both cd_both ct_both : Value} {od_both an_both : Option Addr} {sl_both : Array (Option Value)}
    {oc_places_of kV_places_of dc_places_of pm_places_of cd_places_of ct_places_of : Value} {od_places_of an_places_of : Option Addr} {sl_places_of : Array (Option Value)}
    {oc_at_place kV_at_place dc_at_place pm_at_place cd_at_place ct_at_place : Value} {od_at_place an_at_place : Option Addr} {sl_at_place : Array (Option Value)}
    {oc_number_at kV_number_at dc_number_at pm_number_at cd_number_at ct_number_at : Value} {od_number_at an_number_at : Option Addr} {sl_number_at : Array (Option Value)}
    {oc_row kV_row dc_row pm_row cd_row ct_row : Value} {od_row an_row : Option Addr} {sl_row : Array (Option Value)}
    {oc_three_by kV_three_by dc_three_by pm_three_by cd_three_by ct_three_by : Value} {od_three_by an_three_by : Option Addr} {sl_three_by : Array (Option Value)}
    {oc_three_of kV_three_of dc_three_of pm_three_of cd_three_of ct_three_of : Value} {od_three_of an_three_of : Option Addr} {sl_three_of : Array (Option Value)}
    {oc__law_number kV__law_number dc__law_number pm__law_number cd__law_number ct__law_number : Value} {od__law_number an__law_number : Option Addr} {sl__law_number : Array (Option Value)}
    {oc__law_last kV__law_last dc__law_last pm__law_last cd__law_last ct__law_last : Value} {od__law_last an__law_last : Option Addr} {sl__law_last : Array (Option Value)}
    {oc__law_whole kV__law_whole dc__law_whole pm__law_whole cd__law_whole ct__law_whole : Value} {od__law_whole an__law_whole : Option Addr} {sl__law_whole : Array (Option Value)}
    {oc__law_can_right kV__law_can_right dc__law_can_right pm__law_can_right cd__law_can_right ct__law_can_right : Value} {od__law_can_right an__law_can_right : Option Addr} {sl__law_can_right : Array (Option Value)}
    {oc__law_none_right kV__law_none_right dc__law_none_right pm__law_none_right cd__law_none_right ct__law_none_right : Value} {od__law_none_right an__law_none_right : Option Addr} {sl__law_none_right : Array (Option Value)}
    {oc_law kV_law dc_law pm_law cd_law ct_law : Value} {od_law an_law : Option Addr} {sl_law : Array (Option Value)}
    {n_F n_F1 n_F4 n_F5 : Nat} {dd_F1 dd_F4 dd_F5 : Option Addr} {ss_F1 ss_F4 ss_F5 : Array (Option Value)}
    (z_Answer : PySem.W.nsIn K mainGlobals "Answer" = some (some (.ref e_Answer)))
    (z_Can : PySem.W.nsIn K mainGlobals "Can" = some (some (.ref e_Can)))
    (z_Barred : PySem.W.nsIn K mainGlobals "Barred" = some (some (.ref e_Barred)))
    (z_Good : PySem.W.nsIn K mainGlobals "Good" = some (some (.ref e_Good)))
    (z_Off : PySem.W.nsIn K mainGlobals "Off" = some (some (.ref e_Off)))
    (z_PairError : PySem.W.nsIn K mainGlobals "PairError" = some (some (.ref e_PairError)))
    (z_BadLast : PySem.W.nsIn K mainGlobals "BadLast" = some (some (.ref e_BadLast)))
    (z_BadNumber : PySem.W.nsIn K mainGlobals "BadNumber" = some (some (.ref e_BadNumber)))
    (z_BadPlace : PySem.W.nsIn K mainGlobals "BadPlace" = some (some (.ref e_BadPlace)))
    (z_BadRow : PySem.W.nsIn K mainGlobals "BadRow" = some (some (.ref e_BadRow)))
    (z_NoRow : PySem.W.nsIn K mainGlobals "NoRow" = some (some (.ref e_NoRow)))
    (a_Can_shows : PySem.W.findIn K (.ref e_Can) "shows" = some (some (.ref f_Can_shows)))
    (i_Can_shows : PySem.W.isFn K (.ref f_Can_shows) = true)
    (l_Can_shows : K.lookup f_Can_shows = some ⟨oc_Can_shows, od_Can_shows, .func (PySem.W.fnOf "shows" "Can.shows" (defArgs s_Can_shows) (defBody s_Can_shows) (defScope s_Can_shows) .none kV_Can_shows dc_Can_shows pm_Can_shows an_Can_shows cd_Can_shows ct_Can_shows), sl_Can_shows⟩)
    (c_Can_shows : PySem.W.codeIn K cd_Can_shows "Can.shows" = true)
    (k_Can_shows : PySem.W.keepIn K (.ref f_Can_shows) = true)
    (a_Barred_shows : PySem.W.findIn K (.ref e_Barred) "shows" = some (some (.ref f_Barred_shows)))
    (i_Barred_shows : PySem.W.isFn K (.ref f_Barred_shows) = true)
    (l_Barred_shows : K.lookup f_Barred_shows = some ⟨oc_Barred_shows, od_Barred_shows, .func (PySem.W.fnOf "shows" "Barred.shows" (defArgs s_Barred_shows) (defBody s_Barred_shows) (defScope s_Barred_shows) .none kV_Barred_shows dc_Barred_shows pm_Barred_shows an_Barred_shows cd_Barred_shows ct_Barred_shows), sl_Barred_shows⟩)
    (c_Barred_shows : PySem.W.codeIn K cd_Barred_shows "Barred.shows" = true)
    (k_Barred_shows : PySem.W.keepIn K (.ref f_Barred_shows) = true)
    (a_is_right : PySem.W.nsIn K mainGlobals "is_right" = some (some (.ref f_is_right)))
    (l_is_right : K.lookup f_is_right = some ⟨oc_is_right, od_is_right, .func (PySem.W.fnOf "is_right" "is_right" (defArgs s_is_right) (defBody s_is_right) (defScope s_is_right) .none kV_is_right dc_is_right pm_is_right an_is_right cd_is_right ct_is_right), sl_is_right⟩)
    (c_is_right : PySem.W.codeIn K cd_is_right "is_right" = true)
    (k_is_right : PySem.W.keepIn K (.ref f_is_right) = true)
    (a_Good_shows : PySem.W.findIn K (.ref e_Good) "shows" = some (some (.ref f_Good_shows)))
    (i_Good_shows : PySem.W.isFn K (.ref f_Good_shows) = true)
    (l_Good_shows : K.lookup f_Good_shows = some ⟨oc_Good_shows, od_Good_shows, .func (PySem.W.fnOf "shows" "Good.shows" (defArgs s_Good_shows) (defBody s_Good_shows) (defScope s_Good_shows) .none kV_Good_shows dc_Good_shows pm_Good_shows an_Good_shows cd_Good_shows ct_Good_shows), sl_Good_shows⟩)
    (c_Good_shows : PySem.W.codeIn K cd_Good_shows "Good.shows" = true)
    (k_Good_shows : PySem.W.keepIn K (.ref f_Good_shows) = true)
    (a_Off___init__ : PySem.W.findIn K (.ref e_Off) "__init__" = some (some (.ref f_Off___init__)))
    (i_Off___init__ : PySem.W.isFn K (.ref f_Off___init__) = true)
    (l_Off___init__ : K.lookup f_Off___init__ = some ⟨oc_Off___init__, od_Off___init__, .func (PySem.W.fnOf "__init__" "Off.__init__" (defArgs s_Off___init__) (defBody s_Off___init__) (defScope s_Off___init__) .none kV_Off___init__ dc_Off___init__ pm_Off___init__ an_Off___init__ cd_Off___init__ ct_Off___init__), sl_Off___init__⟩)
    (c_Off___init__ : PySem.W.codeIn K cd_Off___init__ "Off.__init__" = true)
    (k_Off___init__ : PySem.W.keepIn K (.ref f_Off___init__) = true)
    (a_Off_shows : PySem.W.findIn K (.ref e_Off) "shows" = some (some (.ref f_Off_shows)))
    (i_Off_shows : PySem.W.isFn K (.ref f_Off_shows) = true)
    (l_Off_shows : K.lookup f_Off_shows = some ⟨oc_Off_shows, od_Off_shows, .func (PySem.W.fnOf "shows" "Off.shows" (defArgs s_Off_shows) (defBody s_Off_shows) (defScope s_Off_shows) .none kV_Off_shows dc_Off_shows pm_Off_shows an_Off_shows cd_Off_shows ct_Off_shows), sl_Off_shows⟩)
    (c_Off_shows : PySem.W.codeIn K cd_Off_shows "Off.shows" = true)
    (k_Off_shows : PySem.W.keepIn K (.ref f_Off_shows) = true)
    (a_is_number : PySem.W.nsIn K mainGlobals "is_number" = some (some (.ref f_is_number)))
    (l_is_number : K.lookup f_is_number = some ⟨oc_is_number, od_is_number, .func (PySem.W.fnOf "is_number" "is_number" (defArgs s_is_number) (defBody s_is_number) (defScope s_is_number) .none kV_is_number dc_is_number pm_is_number an_is_number cd_is_number ct_is_number), sl_is_number⟩)
    (c_is_number : PySem.W.codeIn K cd_is_number "is_number" = true)
    (k_is_number : PySem.W.keepIn K (.ref f_is_number) = true)
    (a_asked_last : PySem.W.nsIn K mainGlobals "asked_last" = some (some (.ref f_asked_last)))
    (l_asked_last : K.lookup f_asked_last = some ⟨oc_asked_last, od_asked_last, .func (PySem.W.fnOf "asked_last" "asked_last" (defArgs s_asked_last) (defBody s_asked_last) (defScope s_asked_last) .none kV_asked_last dc_asked_last pm_asked_last an_asked_last cd_asked_last ct_asked_last), sl_asked_last⟩)
    (c_asked_last : PySem.W.codeIn K cd_asked_last "asked_last" = true)
    (k_asked_last : PySem.W.keepIn K (.ref f_asked_last) = true)
    (a_can : PySem.W.nsIn K mainGlobals "can" = some (some (.ref f_can)))
    (l_can : K.lookup f_can = some ⟨oc_can, od_can, .func (PySem.W.fnOf "can" "can" (defArgs s_can) (defBody s_can) (defScope s_can) .none kV_can dc_can pm_can an_can cd_can ct_can), sl_can⟩)
    (c_can : PySem.W.codeIn K cd_can "can" = true)
    (k_can : PySem.W.keepIn K (.ref f_can) = true)
    (a_asked_row : PySem.W.nsIn K mainGlobals "asked_row" = some (some (.ref f_asked_row)))
    (l_asked_row : K.lookup f_asked_row = some ⟨oc_asked_row, od_asked_row, .func (PySem.W.fnOf "asked_row" "asked_row" (defArgs s_asked_row) (defBody s_asked_row) (defScope s_asked_row) .none kV_asked_row dc_asked_row pm_asked_row an_asked_row cd_asked_row ct_asked_row), sl_asked_row⟩)
    (c_asked_row : PySem.W.codeIn K cd_asked_row "asked_row" = true)
    (k_asked_row : PySem.W.keepIn K (.ref f_asked_row) = true)
    (a_first_by_fours : PySem.W.nsIn K mainGlobals "first_by_fours" = some (some (.ref f_first_by_fours)))
    (l_first_by_fours : K.lookup f_first_by_fours = some ⟨oc_first_by_fours, od_first_by_fours, .func (PySem.W.fnOf "first_by_fours" "first_by_fours" (defArgs s_first_by_fours) (defBody s_first_by_fours) (defScope s_first_by_fours) .none kV_first_by_fours dc_first_by_fours pm_first_by_fours an_first_by_fours cd_first_by_fours ct_first_by_fours), sl_first_by_fours⟩)
    (c_first_by_fours : PySem.W.codeIn K cd_first_by_fours "first_by_fours" = true)
    (k_first_by_fours : PySem.W.keepIn K (.ref f_first_by_fours) = true)
    (a_first_by_ones : PySem.W.nsIn K mainGlobals "first_by_ones" = some (some (.ref f_first_by_ones)))
    (l_first_by_ones : K.lookup f_first_by_ones = some ⟨oc_first_by_ones, od_first_by_ones, .func (PySem.W.fnOf "first_by_ones" "first_by_ones" (defArgs s_first_by_ones) (defBody s_first_by_ones) (defScope s_first_by_ones) .none kV_first_by_ones dc_first_by_ones pm_first_by_ones an_first_by_ones cd_first_by_ones ct_first_by_ones), sl_first_by_ones⟩)
    (c_first_by_ones : PySem.W.codeIn K cd_first_by_ones "first_by_ones" = true)
    (k_first_by_ones : PySem.W.keepIn K (.ref f_first_by_ones) = true)
    (a_first_of : PySem.W.nsIn K mainGlobals "first_of" = some (some (.ref f_first_of)))
    (l_first_of : K.lookup f_first_of = some ⟨oc_first_of, od_first_of, .func (PySem.W.fnOf "first_of" "first_of" (defArgs s_first_of) (defBody s_first_of) (defScope s_first_of) .none kV_first_of dc_first_of pm_first_of an_first_of cd_first_of ct_first_of), sl_first_of⟩)
    (c_first_of : PySem.W.codeIn K cd_first_of "first_of" = true)
    (k_first_of : PySem.W.keepIn K (.ref f_first_of) = true)
    (a_both : PySem.W.nsIn K mainGlobals "both" = some (some (.ref f_both)))
    (l_both : K.lookup f_both = some ⟨oc_both, od_both, .func (PySem.W.fnOf "both" "both" (defArgs s_both) (defBody s_both) (defScope s_both) .none kV_both dc_both pm_both an_both cd_both ct_both), sl_both⟩)
    (c_both : PySem.W.codeIn K cd_both "both" = true)
    (k_both : PySem.W.keepIn K (.ref f_both) = true)
    (a_places_of : PySem.W.nsIn K mainGlobals "places_of" = some (some (.ref f_places_of)))
    (l_places_of : K.lookup f_places_of = some ⟨oc_places_of, od_places_of, .func (PySem.W.fnOf "places_of" "places_of" (defArgs s_places_of) (defBody s_places_of) (defScope s_places_of) .none kV_places_of dc_places_of pm_places_of an_places_of cd_places_of ct_places_of), sl_places_of⟩)
    (c_places_of : PySem.W.codeIn K cd_places_of "places_of" = true)
    (k_places_of : PySem.W.keepIn K (.ref f_places_of) = true)
    (a_at_place : PySem.W.nsIn K mainGlobals "at_place" = some (some (.ref f_at_place)))
    (l_at_place : K.lookup f_at_place = some ⟨oc_at_place, od_at_place, .func (PySem.W.fnOf "at_place" "at_place" (defArgs s_at_place) (defBody s_at_place) (defScope s_at_place) .none kV_at_place dc_at_place pm_at_place an_at_place cd_at_place ct_at_place), sl_at_place⟩)
    (c_at_place : PySem.W.codeIn K cd_at_place "at_place" = true)
    (k_at_place : PySem.W.keepIn K (.ref f_at_place) = true)
    (a_number_at : PySem.W.nsIn K mainGlobals "number_at" = some (some (.ref f_number_at)))
    (l_number_at : K.lookup f_number_at = some ⟨oc_number_at, od_number_at, .func (PySem.W.fnOf "number_at" "number_at" (defArgs s_number_at) (defBody s_number_at) (defScope s_number_at) .none kV_number_at dc_number_at pm_number_at an_number_at cd_number_at ct_number_at), sl_number_at⟩)
    (c_number_at : PySem.W.codeIn K cd_number_at "number_at" = true)
    (k_number_at : PySem.W.keepIn K (.ref f_number_at) = true)
    (a_row : PySem.W.nsIn K mainGlobals "row" = some (some (.ref f_row)))
    (l_row : K.lookup f_row = some ⟨oc_row, od_row, .func (PySem.W.fnOf "row" "row" (defArgs s_row) (defBody s_row) (defScope s_row) .none kV_row dc_row pm_row an_row cd_row ct_row), sl_row⟩)
    (c_row : PySem.W.codeIn K cd_row "row" = true)
    (k_row : PySem.W.keepIn K (.ref f_row) = true)
    (a_three_by : PySem.W.nsIn K mainGlobals "three_by" = some (some (.ref f_three_by)))
    (l_three_by : K.lookup f_three_by = some ⟨oc_three_by, od_three_by, .func (PySem.W.fnOf "three_by" "three_by" (defArgs s_three_by) (defBody s_three_by) (defScope s_three_by) .none kV_three_by dc_three_by pm_three_by an_three_by cd_three_by ct_three_by), sl_three_by⟩)
    (c_three_by : PySem.W.codeIn K cd_three_by "three_by" = true)
    (k_three_by : PySem.W.keepIn K (.ref f_three_by) = true)
    (a_three_of : PySem.W.nsIn K mainGlobals "three_of" = some (some (.ref f_three_of)))
    (l_three_of : K.lookup f_three_of = some ⟨oc_three_of, od_three_of, .func (PySem.W.fnOf "three_of" "three_of" (defArgs s_three_of) (defBody s_three_of) (defScope s_three_of) .none kV_three_of dc_three_of pm_three_of an_three_of cd_three_of ct_three_of), sl_three_of⟩)
    (c_three_of : PySem.W.codeIn K cd_three_of "three_of" = true)
    (k_three_of : PySem.W.keepIn K (.ref f_three_of) = true)
    (a__law_number : PySem.W.nsIn K mainGlobals "_law_number" = some (some (.ref f__law_number)))
    (l__law_number : K.lookup f__law_number = some ⟨oc__law_number, od__law_number, .func (PySem.W.fnOf "_law_number" "_law_number" (defArgs s__law_number) (defBody s__law_number) (defScope s__law_number) .none kV__law_number dc__law_number pm__law_number an__law_number cd__law_number ct__law_number), sl__law_number⟩)
    (c__law_number : PySem.W.codeIn K cd__law_number "_law_number" = true)
    (k__law_number : PySem.W.keepIn K (.ref f__law_number) = true)
    (a__law_last : PySem.W.nsIn K mainGlobals "_law_last" = some (some (.ref f__law_last)))
    (l__law_last : K.lookup f__law_last = some ⟨oc__law_last, od__law_last, .func (PySem.W.fnOf "_law_last" "_law_last" (defArgs s__law_last) (defBody s__law_last) (defScope s__law_last) .none kV__law_last dc__law_last pm__law_last an__law_last cd__law_last ct__law_last), sl__law_last⟩)
    (c__law_last : PySem.W.codeIn K cd__law_last "_law_last" = true)
    (k__law_last : PySem.W.keepIn K (.ref f__law_last) = true)
    (a__law_whole : PySem.W.nsIn K mainGlobals "_law_whole" = some (some (.ref f__law_whole)))
    (l__law_whole : K.lookup f__law_whole = some ⟨oc__law_whole, od__law_whole, .func (PySem.W.fnOf "_law_whole" "_law_whole" (defArgs s__law_whole) (defBody s__law_whole) (defScope s__law_whole) .none kV__law_whole dc__law_whole pm__law_whole an__law_whole cd__law_whole ct__law_whole), sl__law_whole⟩)
    (c__law_whole : PySem.W.codeIn K cd__law_whole "_law_whole" = true)
    (k__law_whole : PySem.W.keepIn K (.ref f__law_whole) = true)
    (a__law_can_right : PySem.W.nsIn K mainGlobals "_law_can_right" = some (some (.ref f__law_can_right)))
    (l__law_can_right : K.lookup f__law_can_right = some ⟨oc__law_can_right, od__law_can_right, .func (PySem.W.fnOf "_law_can_right" "_law_can_right" (defArgs s__law_can_right) (defBody s__law_can_right) (defScope s__law_can_right) .none kV__law_can_right dc__law_can_right pm__law_can_right an__law_can_right cd__law_can_right ct__law_can_right), sl__law_can_right⟩)
    (c__law_can_right : PySem.W.codeIn K cd__law_can_right "_law_can_right" = true)
    (k__law_can_right : PySem.W.keepIn K (.ref f__law_can_right) = true)
    (a__law_none_right : PySem.W.nsIn K mainGlobals "_law_none_right" = some (some (.ref f__law_none_right)))
    (l__law_none_right : K.lookup f__law_none_right = some ⟨oc__law_none_right, od__law_none_right, .func (PySem.W.fnOf "_law_none_right" "_law_none_right" (defArgs s__law_none_right) (defBody s__law_none_right) (defScope s__law_none_right) .none kV__law_none_right dc__law_none_right pm__law_none_right an__law_none_right cd__law_none_right ct__law_none_right), sl__law_none_right⟩)
    (c__law_none_right : PySem.W.codeIn K cd__law_none_right "_law_none_right" = true)
    (k__law_none_right : PySem.W.keepIn K (.ref f__law_none_right) = true)
    (a_law : PySem.W.nsIn K mainGlobals "law" = some (some (.ref f_law)))
    (l_law : K.lookup f_law = some ⟨oc_law, od_law, .func (PySem.W.fnOf "law" "law" (defArgs s_law) (defBody s_law) (defScope s_law) .none kV_law dc_law pm_law an_law cd_law ct_law), sl_law⟩)
    (c_law : PySem.W.codeIn K cd_law "law" = true)
    (k_law : PySem.W.keepIn K (.ref f_law) = true)
    (p1_Can : PySem.W.plainGet K e_Can Str.empty = true)
    (p2_Can : PySem.W.hasDictIn K e_Can = true)
    (p3_Can : PySem.W.plainOver K e_Can = true)
    (p4_Can : PySem.W.findIn K (.ref e_Can) "__setattr__" = some (some (.builtin "object.__setattr__")))
    (p5_Can : PySem.W.findIn K (.ref e_Can) "__class__" = some (some (.builtin "object.__class__")))
    (p6_Can : PySem.W.specialIn K (.builtin "object.__class__") "__get__" = some (some (.builtin "getset_descriptor.__get__")))
    (p7_Can : PySem.W.takesIn K (.builtin "object.__class__") = some true)
    (p8_Can : PySem.W.mroIn K e_Can (.type "object") = some true)
    (p9_Can : PySem.W.makesIn K e_Can = true)
    (pk_Can : PySem.W.keepIn K (.ref e_Can) = true)
    (ni_Can : PySem.W.findIn K (.ref e_Can) "__init__" = some (some (.builtin "object.__init__")))
    (p1_Barred : PySem.W.plainGet K e_Barred Str.empty = true)
    (p2_Barred : PySem.W.hasDictIn K e_Barred = true)
    (p3_Barred : PySem.W.plainOver K e_Barred = true)
    (p4_Barred : PySem.W.findIn K (.ref e_Barred) "__setattr__" = some (some (.builtin "object.__setattr__")))
    (p5_Barred : PySem.W.findIn K (.ref e_Barred) "__class__" = some (some (.builtin "object.__class__")))
    (p6_Barred : PySem.W.specialIn K (.builtin "object.__class__") "__get__" = some (some (.builtin "getset_descriptor.__get__")))
    (p7_Barred : PySem.W.takesIn K (.builtin "object.__class__") = some true)
    (p8_Barred : PySem.W.mroIn K e_Barred (.type "object") = some true)
    (p9_Barred : PySem.W.makesIn K e_Barred = true)
    (pk_Barred : PySem.W.keepIn K (.ref e_Barred) = true)
    (ni_Barred : PySem.W.findIn K (.ref e_Barred) "__init__" = some (some (.builtin "object.__init__")))
    (p1_Good : PySem.W.plainGet K e_Good Str.empty = true)
    (p2_Good : PySem.W.hasDictIn K e_Good = true)
    (p3_Good : PySem.W.plainOver K e_Good = true)
    (p4_Good : PySem.W.findIn K (.ref e_Good) "__setattr__" = some (some (.builtin "object.__setattr__")))
    (p5_Good : PySem.W.findIn K (.ref e_Good) "__class__" = some (some (.builtin "object.__class__")))
    (p6_Good : PySem.W.specialIn K (.builtin "object.__class__") "__get__" = some (some (.builtin "getset_descriptor.__get__")))
    (p7_Good : PySem.W.takesIn K (.builtin "object.__class__") = some true)
    (p8_Good : PySem.W.mroIn K e_Good (.type "object") = some true)
    (p9_Good : PySem.W.makesIn K e_Good = true)
    (pk_Good : PySem.W.keepIn K (.ref e_Good) = true)
    (ni_Good : PySem.W.findIn K (.ref e_Good) "__init__" = some (some (.builtin "object.__init__")))
    (p1_Off : PySem.W.plainGet K e_Off Str.empty = true)
    (p2_Off : PySem.W.hasDictIn K e_Off = true)
    (p3_Off : PySem.W.plainOver K e_Off = true)
    (p4_Off : PySem.W.findIn K (.ref e_Off) "__setattr__" = some (some (.builtin "object.__setattr__")))
    (p5_Off : PySem.W.findIn K (.ref e_Off) "__class__" = some (some (.builtin "object.__class__")))
    (p6_Off : PySem.W.specialIn K (.builtin "object.__class__") "__get__" = some (some (.builtin "getset_descriptor.__get__")))
    (p7_Off : PySem.W.takesIn K (.builtin "object.__class__") = some true)
    (p8_Off : PySem.W.mroIn K e_Off (.type "object") = some true)
    (p9_Off : PySem.W.makesIn K e_Off = true)
    (pk_Off : PySem.W.keepIn K (.ref e_Off) = true)
    (na_Off : PySem.W.findIn K (.ref e_Off) "number" = some none)
    (x_PairError : PySem.W.excIn K e_PairError [.type "ValueError", .type "Exception", .type "BaseException", .type "object"] "ValueError.__new__" = true)
    (xk_PairError : PySem.W.keepIn K (.ref e_PairError) = true)
    (xs_PairError : PySem.W.subIn K (.ref e_PairError) (.type "BaseException") = some true)
    (xt_PairError : PySem.W.typeIn K (.ref e_PairError) = some (.type "type"))
    (xd_PairError : PySem.W.hasDictIn K e_PairError = true)
    (x_BadLast : PySem.W.excIn K e_BadLast [.type "ValueError", .type "Exception", .type "BaseException", .type "object"] "ValueError.__new__" = true)
    (xk_BadLast : PySem.W.keepIn K (.ref e_BadLast) = true)
    (xs_BadLast : PySem.W.subIn K (.ref e_BadLast) (.type "BaseException") = some true)
    (xt_BadLast : PySem.W.typeIn K (.ref e_BadLast) = some (.type "type"))
    (xd_BadLast : PySem.W.hasDictIn K e_BadLast = true)
    (yg_BadLast : PySem.W.findIn K (.ref e_BadLast) "__getattribute__" = some (some (.builtin "BaseException.__getattribute__")))
    (yh_BadLast : PySem.W.findIn K (.ref e_BadLast) "__getattr__" = some none)
    (ya_BadLast : PySem.W.findIn K (.ref e_BadLast) "__class__" = some (some (.builtin "object.__class__")))
    (yn_BadLast : PySem.W.specialIn K (.builtin "object.__class__") "__get__" = some (some (.builtin "getset_descriptor.__get__")))
    (yt_BadLast : PySem.W.takesIn K (.builtin "object.__class__") = some true)
    (ym_BadLast : PySem.W.mroIn K e_BadLast (.type "object") = some true)
    (yp_BadLast : PySem.W.subIn K (.ref e_BadLast) (.ref e_PairError) = some true)
    (kv_BadLast : PySem.W.kitOne K (.ref e_BadLast) (.type "ValueError") = some true)
    (x_BadNumber : PySem.W.excIn K e_BadNumber [.type "ValueError", .type "Exception", .type "BaseException", .type "object"] "ValueError.__new__" = true)
    (xk_BadNumber : PySem.W.keepIn K (.ref e_BadNumber) = true)
    (xs_BadNumber : PySem.W.subIn K (.ref e_BadNumber) (.type "BaseException") = some true)
    (xt_BadNumber : PySem.W.typeIn K (.ref e_BadNumber) = some (.type "type"))
    (xd_BadNumber : PySem.W.hasDictIn K e_BadNumber = true)
    (yg_BadNumber : PySem.W.findIn K (.ref e_BadNumber) "__getattribute__" = some (some (.builtin "BaseException.__getattribute__")))
    (yh_BadNumber : PySem.W.findIn K (.ref e_BadNumber) "__getattr__" = some none)
    (ya_BadNumber : PySem.W.findIn K (.ref e_BadNumber) "__class__" = some (some (.builtin "object.__class__")))
    (yn_BadNumber : PySem.W.specialIn K (.builtin "object.__class__") "__get__" = some (some (.builtin "getset_descriptor.__get__")))
    (yt_BadNumber : PySem.W.takesIn K (.builtin "object.__class__") = some true)
    (ym_BadNumber : PySem.W.mroIn K e_BadNumber (.type "object") = some true)
    (yp_BadNumber : PySem.W.subIn K (.ref e_BadNumber) (.ref e_PairError) = some true)
    (kv_BadNumber : PySem.W.kitOne K (.ref e_BadNumber) (.type "ValueError") = some true)
    (x_BadPlace : PySem.W.excIn K e_BadPlace [.type "ValueError", .type "Exception", .type "BaseException", .type "object"] "ValueError.__new__" = true)
    (xk_BadPlace : PySem.W.keepIn K (.ref e_BadPlace) = true)
    (xs_BadPlace : PySem.W.subIn K (.ref e_BadPlace) (.type "BaseException") = some true)
    (xt_BadPlace : PySem.W.typeIn K (.ref e_BadPlace) = some (.type "type"))
    (xd_BadPlace : PySem.W.hasDictIn K e_BadPlace = true)
    (yg_BadPlace : PySem.W.findIn K (.ref e_BadPlace) "__getattribute__" = some (some (.builtin "BaseException.__getattribute__")))
    (yh_BadPlace : PySem.W.findIn K (.ref e_BadPlace) "__getattr__" = some none)
    (ya_BadPlace : PySem.W.findIn K (.ref e_BadPlace) "__class__" = some (some (.builtin "object.__class__")))
    (yn_BadPlace : PySem.W.specialIn K (.builtin "object.__class__") "__get__" = some (some (.builtin "getset_descriptor.__get__")))
    (yt_BadPlace : PySem.W.takesIn K (.builtin "object.__class__") = some true)
    (ym_BadPlace : PySem.W.mroIn K e_BadPlace (.type "object") = some true)
    (yp_BadPlace : PySem.W.subIn K (.ref e_BadPlace) (.ref e_PairError) = some true)
    (kv_BadPlace : PySem.W.kitOne K (.ref e_BadPlace) (.type "ValueError") = some true)
    (x_BadRow : PySem.W.excIn K e_BadRow [.type "ValueError", .type "Exception", .type "BaseException", .type "object"] "ValueError.__new__" = true)
    (xk_BadRow : PySem.W.keepIn K (.ref e_BadRow) = true)
    (xs_BadRow : PySem.W.subIn K (.ref e_BadRow) (.type "BaseException") = some true)
    (xt_BadRow : PySem.W.typeIn K (.ref e_BadRow) = some (.type "type"))
    (xd_BadRow : PySem.W.hasDictIn K e_BadRow = true)
    (yg_BadRow : PySem.W.findIn K (.ref e_BadRow) "__getattribute__" = some (some (.builtin "BaseException.__getattribute__")))
    (yh_BadRow : PySem.W.findIn K (.ref e_BadRow) "__getattr__" = some none)
    (ya_BadRow : PySem.W.findIn K (.ref e_BadRow) "__class__" = some (some (.builtin "object.__class__")))
    (yn_BadRow : PySem.W.specialIn K (.builtin "object.__class__") "__get__" = some (some (.builtin "getset_descriptor.__get__")))
    (yt_BadRow : PySem.W.takesIn K (.builtin "object.__class__") = some true)
    (ym_BadRow : PySem.W.mroIn K e_BadRow (.type "object") = some true)
    (yp_BadRow : PySem.W.subIn K (.ref e_BadRow) (.ref e_PairError) = some true)
    (kv_BadRow : PySem.W.kitOne K (.ref e_BadRow) (.type "ValueError") = some true)
    (x_NoRow : PySem.W.excIn K e_NoRow [.type "ValueError", .type "Exception", .type "BaseException", .type "object"] "ValueError.__new__" = true)
    (xk_NoRow : PySem.W.keepIn K (.ref e_NoRow) = true)
    (xs_NoRow : PySem.W.subIn K (.ref e_NoRow) (.type "BaseException") = some true)
    (xt_NoRow : PySem.W.typeIn K (.ref e_NoRow) = some (.type "type"))
    (xd_NoRow : PySem.W.hasDictIn K e_NoRow = true)
    (yg_NoRow : PySem.W.findIn K (.ref e_NoRow) "__getattribute__" = some (some (.builtin "BaseException.__getattribute__")))
    (yh_NoRow : PySem.W.findIn K (.ref e_NoRow) "__getattr__" = some none)
    (ya_NoRow : PySem.W.findIn K (.ref e_NoRow) "__class__" = some (some (.builtin "object.__class__")))
    (yn_NoRow : PySem.W.specialIn K (.builtin "object.__class__") "__get__" = some (some (.builtin "getset_descriptor.__get__")))
    (yt_NoRow : PySem.W.takesIn K (.builtin "object.__class__") = some true)
    (ym_NoRow : PySem.W.mroIn K e_NoRow (.type "object") = some true)
    (yp_NoRow : PySem.W.subIn K (.ref e_NoRow) (.ref e_PairError) = some true)
    (kv_NoRow : PySem.W.kitOne K (.ref e_NoRow) (.type "ValueError") = some true)
    (z_GREATEST : PySem.W.nsIn K mainGlobals "GREATEST" = some (some (.int 100 t_GREATEST)))
    (z_FIRSTS : PySem.W.nsIn K mainGlobals "FIRSTS" = some (some (.ref e_FIRSTS)))
    (l_FIRSTS : K.lookup e_FIRSTS = some ⟨.type "dict", none, .dict #[⟨1, .int 1 t_F1, .ref e_F1⟩, ⟨4, .int 4 t_F4, .ref e_F4⟩, ⟨5, .int 5 t_F5, .ref e_F5⟩] n_F, #[]⟩)
    (l_F1 : K.lookup e_F1 = some ⟨.type "tuple", dd_F1, .seq #[.int 1 t_Fa0] n_F1, ss_F1⟩)
    (l_F4 : K.lookup e_F4 = some ⟨.type "tuple", dd_F4, .seq #[.int 1 t_Fa1, .int 5 t_Fa2, .int 3 t_Fa3, .int 4 t_Fa4] n_F4, ss_F4⟩)
    (l_F5 : K.lookup e_F5 = some ⟨.type "tuple", dd_F5, .seq #[.int 8 t_Fa5, .int 3 t_Fa6, .int 1 t_Fa7, .int 6 t_Fa8, .int 2 t_Fa9] n_F5, ss_F5⟩)
    (m_ValueError : PySem.W.nsIn K mainGlobals "ValueError" = some none)
    (m_abs : PySem.W.nsIn K mainGlobals "abs" = some none)
    (m_all : PySem.W.nsIn K mainGlobals "all" = some none)
    (m_any : PySem.W.nsIn K mainGlobals "any" = some none)
    (m_bool : PySem.W.nsIn K mainGlobals "bool" = some none)
    (m_enumerate : PySem.W.nsIn K mainGlobals "enumerate" = some none)
    (m_int : PySem.W.nsIn K mainGlobals "int" = some none)
    (m_isinstance : PySem.W.nsIn K mainGlobals "isinstance" = some none)
    (m_len : PySem.W.nsIn K mainGlobals "len" = some none)
    (m_list : PySem.W.nsIn K mainGlobals "list" = some none)
    (m_min : PySem.W.nsIn K mainGlobals "min" = some none)
    (m_range : PySem.W.nsIn K mainGlobals "range" = some none)
    (m_sorted : PySem.W.nsIn K mainGlobals "sorted" = some none)
    (m_sum : PySem.W.nsIn K mainGlobals "sum" = some none)
    (ke_BadLast_BadLast : PySem.W.kitOne K (.ref e_BadLast) (.ref e_BadLast) = some true)
    (ke_BadLast_BadNumber : PySem.W.kitOne K (.ref e_BadLast) (.ref e_BadNumber) = some false)
    (ke_BadLast_BadPlace : PySem.W.kitOne K (.ref e_BadLast) (.ref e_BadPlace) = some false)
    (ke_BadLast_BadRow : PySem.W.kitOne K (.ref e_BadLast) (.ref e_BadRow) = some false)
    (ke_BadLast_NoRow : PySem.W.kitOne K (.ref e_BadLast) (.ref e_NoRow) = some false)
    (ke_BadNumber_BadLast : PySem.W.kitOne K (.ref e_BadNumber) (.ref e_BadLast) = some false)
    (ke_BadNumber_BadNumber : PySem.W.kitOne K (.ref e_BadNumber) (.ref e_BadNumber) = some true)
    (ke_BadNumber_BadPlace : PySem.W.kitOne K (.ref e_BadNumber) (.ref e_BadPlace) = some false)
    (ke_BadNumber_BadRow : PySem.W.kitOne K (.ref e_BadNumber) (.ref e_BadRow) = some false)
    (ke_BadNumber_NoRow : PySem.W.kitOne K (.ref e_BadNumber) (.ref e_NoRow) = some false)
    (ke_BadPlace_BadLast : PySem.W.kitOne K (.ref e_BadPlace) (.ref e_BadLast) = some false)
    (ke_BadPlace_BadNumber : PySem.W.kitOne K (.ref e_BadPlace) (.ref e_BadNumber) = some false)
    (ke_BadPlace_BadPlace : PySem.W.kitOne K (.ref e_BadPlace) (.ref e_BadPlace) = some true)
    (ke_BadPlace_BadRow : PySem.W.kitOne K (.ref e_BadPlace) (.ref e_BadRow) = some false)
    (ke_BadPlace_NoRow : PySem.W.kitOne K (.ref e_BadPlace) (.ref e_NoRow) = some false)
    (ke_BadRow_BadLast : PySem.W.kitOne K (.ref e_BadRow) (.ref e_BadLast) = some false)
    (ke_BadRow_BadNumber : PySem.W.kitOne K (.ref e_BadRow) (.ref e_BadNumber) = some false)
    (ke_BadRow_BadPlace : PySem.W.kitOne K (.ref e_BadRow) (.ref e_BadPlace) = some false)
    (ke_BadRow_BadRow : PySem.W.kitOne K (.ref e_BadRow) (.ref e_BadRow) = some true)
    (ke_BadRow_NoRow : PySem.W.kitOne K (.ref e_BadRow) (.ref e_NoRow) = some false)
    (ke_NoRow_BadLast : PySem.W.kitOne K (.ref e_NoRow) (.ref e_BadLast) = some false)
    (ke_NoRow_BadNumber : PySem.W.kitOne K (.ref e_NoRow) (.ref e_BadNumber) = some false)
    (ke_NoRow_BadPlace : PySem.W.kitOne K (.ref e_NoRow) (.ref e_BadPlace) = some false)
    (ke_NoRow_BadRow : PySem.W.kitOne K (.ref e_NoRow) (.ref e_BadRow) = some false)
    (ke_NoRow_NoRow : PySem.W.kitOne K (.ref e_NoRow) (.ref e_NoRow) = some true)
    (kit_Can_Answer : PySem.W.kitOne K (.ref e_Can) (.ref e_Answer) = some true)
    (kit_Can_Can : PySem.W.kitOne K (.ref e_Can) (.ref e_Can) = some true)
    (kit_Can_Barred : PySem.W.kitOne K (.ref e_Can) (.ref e_Barred) = some false)
    (kit_Can_Good : PySem.W.kitOne K (.ref e_Can) (.ref e_Good) = some false)
    (kit_Can_Off : PySem.W.kitOne K (.ref e_Can) (.ref e_Off) = some false)
    (kit_Barred_Answer : PySem.W.kitOne K (.ref e_Barred) (.ref e_Answer) = some true)
    (kit_Barred_Can : PySem.W.kitOne K (.ref e_Barred) (.ref e_Can) = some false)
    (kit_Barred_Barred : PySem.W.kitOne K (.ref e_Barred) (.ref e_Barred) = some true)
    (kit_Barred_Good : PySem.W.kitOne K (.ref e_Barred) (.ref e_Good) = some false)
    (kit_Barred_Off : PySem.W.kitOne K (.ref e_Barred) (.ref e_Off) = some false)
    (kit_Good_Answer : PySem.W.kitOne K (.ref e_Good) (.ref e_Answer) = some true)
    (kit_Good_Can : PySem.W.kitOne K (.ref e_Good) (.ref e_Can) = some false)
    (kit_Good_Barred : PySem.W.kitOne K (.ref e_Good) (.ref e_Barred) = some false)
    (kit_Good_Good : PySem.W.kitOne K (.ref e_Good) (.ref e_Good) = some true)
    (kit_Good_Off : PySem.W.kitOne K (.ref e_Good) (.ref e_Off) = some false)
    (kit_Off_Answer : PySem.W.kitOne K (.ref e_Off) (.ref e_Answer) = some true)
    (kit_Off_Can : PySem.W.kitOne K (.ref e_Off) (.ref e_Can) = some false)
    (kit_Off_Barred : PySem.W.kitOne K (.ref e_Off) (.ref e_Barred) = some false)
    (kit_Off_Good : PySem.W.kitOne K (.ref e_Off) (.ref e_Good) = some false)
    (kit_Off_Off : PySem.W.kitOne K (.ref e_Off) (.ref e_Off) = some true) : Tx K mg := {
    a_Can_shows := f_Can_shows, d_Can_shows := _, F_Can_shows := fun_mk (st := s_Can_shows) l_Can_shows c_Can_shows k_Can_shows, b_Can_shows := (fun_mk (st := s_Can_shows) l_Can_shows c_Can_shows k_Can_shows).binds (ps := ["self", "last"]) fun _ _ _ _ _ _ us hl => match us, hl with | [_, _], _ => rfl,
    a_Barred_shows := f_Barred_shows, d_Barred_shows := _, F_Barred_shows := fun_mk (st := s_Barred_shows) l_Barred_shows c_Barred_shows k_Barred_shows, b_Barred_shows := (fun_mk (st := s_Barred_shows) l_Barred_shows c_Barred_shows k_Barred_shows).binds (ps := ["self", "last"]) fun _ _ _ _ _ _ us hl => match us, hl with | [_, _], _ => rfl,
    a_is_right := f_is_right, d_is_right := _, F_is_right := fun_mk (st := s_is_right) l_is_right c_is_right k_is_right, b_is_right := (fun_mk (st := s_is_right) l_is_right c_is_right k_is_right).binds (ps := ["row", "number"]) fun _ _ _ _ _ _ us hl => match us, hl with | [_, _], _ => rfl,
    g_is_right := PySem.W.mg_of X G a_is_right,
    a_Good_shows := f_Good_shows, d_Good_shows := _, F_Good_shows := fun_mk (st := s_Good_shows) l_Good_shows c_Good_shows k_Good_shows, b_Good_shows := (fun_mk (st := s_Good_shows) l_Good_shows c_Good_shows k_Good_shows).binds (ps := ["self", "row"]) fun _ _ _ _ _ _ us hl => match us, hl with | [_, _], _ => rfl,
    a_Off___init__ := f_Off___init__, d_Off___init__ := _, F_Off___init__ := fun_mk (st := s_Off___init__) l_Off___init__ c_Off___init__ k_Off___init__, b_Off___init__ := (fun_mk (st := s_Off___init__) l_Off___init__ c_Off___init__ k_Off___init__).binds (ps := ["self", "number"]) fun _ _ _ _ _ _ us hl => match us, hl with | [_, _], _ => rfl,
    a_Off_shows := f_Off_shows, d_Off_shows := _, F_Off_shows := fun_mk (st := s_Off_shows) l_Off_shows c_Off_shows k_Off_shows, b_Off_shows := (fun_mk (st := s_Off_shows) l_Off_shows c_Off_shows k_Off_shows).binds (ps := ["self", "row"]) fun _ _ _ _ _ _ us hl => match us, hl with | [_, _], _ => rfl,
    a_is_number := f_is_number, d_is_number := _, F_is_number := fun_mk (st := s_is_number) l_is_number c_is_number k_is_number, b_is_number := (fun_mk (st := s_is_number) l_is_number c_is_number k_is_number).binds (ps := ["thing"]) fun _ _ _ _ _ _ us hl => match us, hl with | [_], _ => rfl,
    g_is_number := PySem.W.mg_of X G a_is_number,
    a_asked_last := f_asked_last, d_asked_last := _, F_asked_last := fun_mk (st := s_asked_last) l_asked_last c_asked_last k_asked_last, b_asked_last := (fun_mk (st := s_asked_last) l_asked_last c_asked_last k_asked_last).binds (ps := ["last"]) fun _ _ _ _ _ _ us hl => match us, hl with | [_], _ => rfl,
    g_asked_last := PySem.W.mg_of X G a_asked_last,
    a_can := f_can, d_can := _, F_can := fun_mk (st := s_can) l_can c_can k_can, b_can := (fun_mk (st := s_can) l_can c_can k_can).binds (ps := ["last"]) fun _ _ _ _ _ _ us hl => match us, hl with | [_], _ => rfl,
    g_can := PySem.W.mg_of X G a_can,
    a_asked_row := f_asked_row, d_asked_row := _, F_asked_row := fun_mk (st := s_asked_row) l_asked_row c_asked_row k_asked_row, b_asked_row := (fun_mk (st := s_asked_row) l_asked_row c_asked_row k_asked_row).binds (ps := ["last"]) fun _ _ _ _ _ _ us hl => match us, hl with | [_], _ => rfl,
    g_asked_row := PySem.W.mg_of X G a_asked_row,
    a_first_by_fours := f_first_by_fours, d_first_by_fours := _, F_first_by_fours := fun_mk (st := s_first_by_fours) l_first_by_fours c_first_by_fours k_first_by_fours, b_first_by_fours := (fun_mk (st := s_first_by_fours) l_first_by_fours c_first_by_fours k_first_by_fours).binds (ps := ["part", "number"]) fun _ _ _ _ _ _ us hl => match us, hl with | [_, _], _ => rfl,
    g_first_by_fours := PySem.W.mg_of X G a_first_by_fours,
    a_first_by_ones := f_first_by_ones, d_first_by_ones := _, F_first_by_ones := fun_mk (st := s_first_by_ones) l_first_by_ones c_first_by_ones k_first_by_ones, b_first_by_ones := (fun_mk (st := s_first_by_ones) l_first_by_ones c_first_by_ones k_first_by_ones).binds (ps := ["part", "number"]) fun _ _ _ _ _ _ us hl => match us, hl with | [_, _], _ => rfl,
    g_first_by_ones := PySem.W.mg_of X G a_first_by_ones,
    a_first_of := f_first_of, d_first_of := _, F_first_of := fun_mk (st := s_first_of) l_first_of c_first_of k_first_of, b_first_of := (fun_mk (st := s_first_of) l_first_of c_first_of k_first_of).binds (ps := ["last", "number"]) fun _ _ _ _ _ _ us hl => match us, hl with | [_, _], _ => rfl,
    g_first_of := PySem.W.mg_of X G a_first_of,
    a_both := f_both, d_both := _, F_both := fun_mk (st := s_both) l_both c_both k_both, b_both := (fun_mk (st := s_both) l_both c_both k_both).binds (ps := ["last", "number"]) fun _ _ _ _ _ _ us hl => match us, hl with | [_, _], _ => rfl,
    g_both := PySem.W.mg_of X G a_both,
    a_places_of := f_places_of, d_places_of := _, F_places_of := fun_mk (st := s_places_of) l_places_of c_places_of k_places_of, b_places_of := (fun_mk (st := s_places_of) l_places_of c_places_of k_places_of).binds (ps := ["last", "number"]) fun _ _ _ _ _ _ us hl => match us, hl with | [_, _], _ => rfl,
    g_places_of := PySem.W.mg_of X G a_places_of,
    a_at_place := f_at_place, d_at_place := _, F_at_place := fun_mk (st := s_at_place) l_at_place c_at_place k_at_place, b_at_place := (fun_mk (st := s_at_place) l_at_place c_at_place k_at_place).binds (ps := ["last", "place"]) fun _ _ _ _ _ _ us hl => match us, hl with | [_, _], _ => rfl,
    g_at_place := PySem.W.mg_of X G a_at_place,
    a_number_at := f_number_at, d_number_at := _, F_number_at := fun_mk (st := s_number_at) l_number_at c_number_at k_number_at, b_number_at := (fun_mk (st := s_number_at) l_number_at c_number_at k_number_at).binds (ps := ["last", "place"]) fun _ _ _ _ _ _ us hl => match us, hl with | [_, _], _ => rfl,
    g_number_at := PySem.W.mg_of X G a_number_at,
    a_row := f_row, d_row := _, F_row := fun_mk (st := s_row) l_row c_row k_row, b_row := (fun_mk (st := s_row) l_row c_row k_row).binds (ps := ["last"]) fun _ _ _ _ _ _ us hl => match us, hl with | [_], _ => rfl,
    g_row := PySem.W.mg_of X G a_row,
    a_three_by := f_three_by, d_three_by := _, F_three_by := fun_mk (st := s_three_by) l_three_by c_three_by k_three_by, b_three_by := (fun_mk (st := s_three_by) l_three_by c_three_by k_three_by).binds (ps := ["last", "number"]) fun _ _ _ _ _ _ us hl => match us, hl with | [_, _], _ => rfl,
    g_three_by := PySem.W.mg_of X G a_three_by,
    a_three_of := f_three_of, d_three_of := _, F_three_of := fun_mk (st := s_three_of) l_three_of c_three_of k_three_of, b_three_of := (fun_mk (st := s_three_of) l_three_of c_three_of k_three_of).binds (ps := ["last", "number"]) fun _ _ _ _ _ _ us hl => match us, hl with | [_, _], _ => rfl,
    g_three_of := PySem.W.mg_of X G a_three_of,
    a__law_number := f__law_number, d__law_number := _, F__law_number := fun_mk (st := s__law_number) l__law_number c__law_number k__law_number, b__law_number := (fun_mk (st := s__law_number) l__law_number c__law_number k__law_number).binds (ps := ["_law_cell", "_law_at", "_law_whole_here"]) fun _ _ _ _ _ _ us hl => match us, hl with | [_, _, _], _ => rfl,
    g__law_number := PySem.W.mg_of X G a__law_number,
    a__law_last := f__law_last, d__law_last := _, F__law_last := fun_mk (st := s__law_last) l__law_last c__law_last k__law_last, b__law_last := (fun_mk (st := s__law_last) l__law_last c__law_last k__law_last).binds (ps := ["_law_script", "_law_at"]) fun _ _ _ _ _ _ us hl => match us, hl with | [_, _], _ => rfl,
    g__law_last := PySem.W.mg_of X G a__law_last,
    a__law_whole := f__law_whole, d__law_whole := _, F__law_whole := fun_mk (st := s__law_whole) l__law_whole c__law_whole k__law_whole, b__law_whole := (fun_mk (st := s__law_whole) l__law_whole c__law_whole k__law_whole).binds (ps := ["_law_number_here"]) fun _ _ _ _ _ _ us hl => match us, hl with | [_], _ => rfl,
    g__law_whole := PySem.W.mg_of X G a__law_whole,
    a__law_can_right := f__law_can_right, d__law_can_right := _, F__law_can_right := fun_mk (st := s__law_can_right) l__law_can_right c__law_can_right k__law_can_right, b__law_can_right := (fun_mk (st := s__law_can_right) l__law_can_right c__law_can_right k__law_can_right).binds (ps := ["_law_last_here"]) fun _ _ _ _ _ _ us hl => match us, hl with | [_], _ => rfl,
    g__law_can_right := PySem.W.mg_of X G a__law_can_right,
    a__law_none_right := f__law_none_right, d__law_none_right := _, F__law_none_right := fun_mk (st := s__law_none_right) l__law_none_right c__law_none_right k__law_none_right, b__law_none_right := (fun_mk (st := s__law_none_right) l__law_none_right c__law_none_right k__law_none_right).binds (ps := ["_law_last_here"]) fun _ _ _ _ _ _ us hl => match us, hl with | [_], _ => rfl,
    g__law_none_right := PySem.W.mg_of X G a__law_none_right,
    a_law := f_law, d_law := _, F_law := fun_mk (st := s_law) l_law c_law k_law, b_law := (fun_mk (st := s_law) l_law c_law k_law).binds (ps := ["_law_script"]) fun _ _ _ _ _ _ us hl => match us, hl with | [_], _ => rfl,
    g_law := PySem.W.mg_of X G a_law,
    c_Answer := e_Answer, g_Answer := PySem.W.mg_of X G z_Answer,
    c_Can := e_Can, g_Can := PySem.W.mg_of X G z_Can,
    i_Can := ⟨⟨p1_Can, p2_Can, p3_Can, p4_Can⟩, p5_Can, p6_Can, p7_Can, p8_Can⟩,
    n_Can := ⟨p9_Can, ni_Can, pk_Can⟩,
    s_Can := ⟨a_Can_shows, i_Can_shows, k_Can_shows⟩,
    c_Barred := e_Barred, g_Barred := PySem.W.mg_of X G z_Barred,
    i_Barred := ⟨⟨p1_Barred, p2_Barred, p3_Barred, p4_Barred⟩, p5_Barred, p6_Barred, p7_Barred, p8_Barred⟩,
    n_Barred := ⟨p9_Barred, ni_Barred, pk_Barred⟩,
    s_Barred := ⟨a_Barred_shows, i_Barred_shows, k_Barred_shows⟩,
    c_Good := e_Good, g_Good := PySem.W.mg_of X G z_Good,
    i_Good := ⟨⟨p1_Good, p2_Good, p3_Good, p4_Good⟩, p5_Good, p6_Good, p7_Good, p8_Good⟩,
    n_Good := ⟨p9_Good, ni_Good, pk_Good⟩,
    s_Good := ⟨a_Good_shows, i_Good_shows, k_Good_shows⟩,
    c_Off := e_Off, g_Off := PySem.W.mg_of X G z_Off,
    i_Off := ⟨⟨p1_Off, p2_Off, p3_Off, p4_Off⟩, p5_Off, p6_Off, p7_Off, p8_Off⟩,
    na_Off_number := na_Off,
    n_Off := ⟨p9_Off, a_Off___init__, i_Off___init__, pk_Off⟩,
    s_Off := ⟨a_Off_shows, i_Off_shows, k_Off_shows⟩,
    c_PairError := e_PairError, g_PairError := PySem.W.mg_of X G z_PairError,
    x_PairError := ⟨x_PairError, xk_PairError, xs_PairError, xt_PairError⟩,
    c_BadLast := e_BadLast, g_BadLast := PySem.W.mg_of X G z_BadLast,
    x_BadLast := ⟨x_BadLast, xk_BadLast, xs_BadLast, xt_BadLast⟩,
    y_BadLast := ⟨yg_BadLast, yh_BadLast, xs_BadLast, xd_BadLast, ya_BadLast, yn_BadLast, yt_BadLast, ym_BadLast⟩,
    em_BadLast := PySem.W.exm_ref xs_PairError xd_PairError xt_PairError yp_BadLast,
    kv_BadLast := kv_BadLast,
    c_BadNumber := e_BadNumber, g_BadNumber := PySem.W.mg_of X G z_BadNumber,
    x_BadNumber := ⟨x_BadNumber, xk_BadNumber, xs_BadNumber, xt_BadNumber⟩,
    y_BadNumber := ⟨yg_BadNumber, yh_BadNumber, xs_BadNumber, xd_BadNumber, ya_BadNumber, yn_BadNumber, yt_BadNumber, ym_BadNumber⟩,
    em_BadNumber := PySem.W.exm_ref xs_PairError xd_PairError xt_PairError yp_BadNumber,
    kv_BadNumber := kv_BadNumber,
    c_BadPlace := e_BadPlace, g_BadPlace := PySem.W.mg_of X G z_BadPlace,
    x_BadPlace := ⟨x_BadPlace, xk_BadPlace, xs_BadPlace, xt_BadPlace⟩,
    y_BadPlace := ⟨yg_BadPlace, yh_BadPlace, xs_BadPlace, xd_BadPlace, ya_BadPlace, yn_BadPlace, yt_BadPlace, ym_BadPlace⟩,
    em_BadPlace := PySem.W.exm_ref xs_PairError xd_PairError xt_PairError yp_BadPlace,
    kv_BadPlace := kv_BadPlace,
    c_BadRow := e_BadRow, g_BadRow := PySem.W.mg_of X G z_BadRow,
    x_BadRow := ⟨x_BadRow, xk_BadRow, xs_BadRow, xt_BadRow⟩,
    y_BadRow := ⟨yg_BadRow, yh_BadRow, xs_BadRow, xd_BadRow, ya_BadRow, yn_BadRow, yt_BadRow, ym_BadRow⟩,
    em_BadRow := PySem.W.exm_ref xs_PairError xd_PairError xt_PairError yp_BadRow,
    kv_BadRow := kv_BadRow,
    c_NoRow := e_NoRow, g_NoRow := PySem.W.mg_of X G z_NoRow,
    x_NoRow := ⟨x_NoRow, xk_NoRow, xs_NoRow, xt_NoRow⟩,
    y_NoRow := ⟨yg_NoRow, yh_NoRow, xs_NoRow, xd_NoRow, ya_NoRow, yn_NoRow, yt_NoRow, ym_NoRow⟩,
    em_NoRow := PySem.W.exm_ref xs_PairError xd_PairError xt_PairError yp_NoRow,
    kv_NoRow := kv_NoRow,
    t_GREATEST := t_GREATEST, c_GREATEST := PySem.W.mg_of X G z_GREATEST,
    c_FIRSTS := e_FIRSTS, g_FIRSTS := PySem.W.mg_of X G z_FIRSTS, k_FIRSTS := firsts_mk l_FIRSTS l_F1 l_F4 l_F5,
    m_ValueError := PySem.W.mg_none_of X G m_ValueError,
    m_abs := PySem.W.mg_none_of X G m_abs,
    m_all := PySem.W.mg_none_of X G m_all,
    m_any := PySem.W.mg_none_of X G m_any,
    m_bool := PySem.W.mg_none_of X G m_bool,
    m_enumerate := PySem.W.mg_none_of X G m_enumerate,
    m_int := PySem.W.mg_none_of X G m_int,
    m_isinstance := PySem.W.mg_none_of X G m_isinstance,
    m_len := PySem.W.mg_none_of X G m_len,
    m_list := PySem.W.mg_none_of X G m_list,
    m_min := PySem.W.mg_none_of X G m_min,
    m_range := PySem.W.mg_none_of X G m_range,
    m_sorted := PySem.W.mg_none_of X G m_sorted,
    m_sum := PySem.W.mg_none_of X G m_sum,
    ke_BadLast_BadLast := ke_BadLast_BadLast,
    ke_BadLast_BadNumber := ke_BadLast_BadNumber,
    ke_BadLast_BadPlace := ke_BadLast_BadPlace,
    ke_BadLast_BadRow := ke_BadLast_BadRow,
    ke_BadLast_NoRow := ke_BadLast_NoRow,
    ke_BadNumber_BadLast := ke_BadNumber_BadLast,
    ke_BadNumber_BadNumber := ke_BadNumber_BadNumber,
    ke_BadNumber_BadPlace := ke_BadNumber_BadPlace,
    ke_BadNumber_BadRow := ke_BadNumber_BadRow,
    ke_BadNumber_NoRow := ke_BadNumber_NoRow,
    ke_BadPlace_BadLast := ke_BadPlace_BadLast,
    ke_BadPlace_BadNumber := ke_BadPlace_BadNumber,
    ke_BadPlace_BadPlace := ke_BadPlace_BadPlace,
    ke_BadPlace_BadRow := ke_BadPlace_BadRow,
    ke_BadPlace_NoRow := ke_BadPlace_NoRow,
    ke_BadRow_BadLast := ke_BadRow_BadLast,
    ke_BadRow_BadNumber := ke_BadRow_BadNumber,
    ke_BadRow_BadPlace := ke_BadRow_BadPlace,
    ke_BadRow_BadRow := ke_BadRow_BadRow,
    ke_BadRow_NoRow := ke_BadRow_NoRow,
    ke_NoRow_BadLast := ke_NoRow_BadLast,
    ke_NoRow_BadNumber := ke_NoRow_BadNumber,
    ke_NoRow_BadPlace := ke_NoRow_BadPlace,
    ke_NoRow_BadRow := ke_NoRow_BadRow,
    ke_NoRow_NoRow := ke_NoRow_NoRow,
    kit_Can_Answer := kit_Can_Answer,
    kit_Can_Can := kit_Can_Can,
    kit_Can_Barred := kit_Can_Barred,
    kit_Can_Good := kit_Can_Good,
    kit_Can_Off := kit_Can_Off,
    kit_Barred_Answer := kit_Barred_Answer,
    kit_Barred_Can := kit_Barred_Can,
    kit_Barred_Barred := kit_Barred_Barred,
    kit_Barred_Good := kit_Barred_Good,
    kit_Barred_Off := kit_Barred_Off,
    kit_Good_Answer := kit_Good_Answer,
    kit_Good_Can := kit_Good_Can,
    kit_Good_Barred := kit_Good_Barred,
    kit_Good_Good := kit_Good_Good,
    kit_Good_Off := kit_Good_Off,
    kit_Off_Answer := kit_Off_Answer,
    kit_Off_Can := kit_Off_Can,
    kit_Off_Barred := kit_Off_Barred,
    kit_Off_Good := kit_Off_Good,
    kit_Off_Off := kit_Off_Off }
theorem all_mk {l : PySem.W.OpenLaw} {w : World} {K : PySem.W.Frag} {h : Heap} {mg : Str → Option Value} {fa e_Answer e_Can e_Barred e_Good e_Off e_PairError e_BadLast e_BadNumber e_BadPlace e_BadRow e_NoRow f_Can_shows f_Barred_shows f_is_right f_Good_shows f_Off___init__ f_Off_shows f_is_number f_asked_last f_can f_asked_row f_first_by_fours f_first_by_ones f_first_of f_both f_places_of f_at_place f_number_at f_row f_three_by f_three_of f__law_number f__law_last f__law_whole f__law_can_right f__law_none_right f_law e_FIRSTS e_F1 e_F4 e_F5 : Addr} {t_GREATEST t_F1 t_F4 t_F5 t_Fa0 t_Fa1 t_Fa2 t_Fa3 t_Fa4 t_Fa5 t_Fa6 t_Fa7 t_Fa8 t_Fa9 : Tok} (X : K.In h) (G : h.Ns mainGlobals mg) (hfa : mg "law" = some (.ref fa))
    {oc_Can_shows kV_Can_shows dc_Can_shows pm_Can_shows cd_Can_shows ct_Can_shows : Value} {od_Can_shows an_Can_shows : Option Addr} {sl_Can_shows : Array (Option Value)}
    {oc_Barred_shows kV_Barred_shows dc_Barred_shows pm_Barred_shows cd_Barred_shows ct_Barred_shows : Value} {od_Barred_shows an_Barred_shows : Option Addr} {sl_Barred_shows : Array (Option Value)}
    {oc_is_right kV_is_right dc_is_right pm_is_right cd_is_right ct_is_right : Value} {od_is_right an_is_right : Option Addr} {sl_is_right : Array (Option Value)}
    {oc_Good_shows kV_Good_shows dc_Good_shows pm_Good_shows cd_Good_shows ct_Good_shows : Value} {od_Good_shows an_Good_shows : Option Addr} {sl_Good_shows : Array (Option Value)}
    {oc_Off___init__ kV_Off___init__ dc_Off___init__ pm_Off___init__ cd_Off___init__ ct_Off___init__ : Value} {od_Off___init__ an_Off___init__ : Option Addr} {sl_Off___init__ : Array (Option Value)}
    {oc_Off_shows kV_Off_shows dc_Off_shows pm_Off_shows cd_Off_shows ct_Off_shows : Value} {od_Off_shows an_Off_shows : Option Addr} {sl_Off_shows : Array (Option Value)}
    {oc_is_number kV_is_number dc_is_number pm_is_number cd_is_number ct_is_number : Value} {od_is_number an_is_number : Option Addr} {sl_is_number : Array (Option Value)}
    {oc_asked_last kV_asked_last dc_asked_last pm_asked_last cd_asked_last ct_asked_last : Value} {od_asked_last an_asked_last : Option Addr} {sl_asked_last : Array (Option Value)}
    {oc_can kV_can dc_can pm_can cd_can ct_can : Value} {od_can an_can : Option Addr} {sl_can : Array (Option Value)}
    {oc_asked_row kV_asked_row dc_asked_row pm_asked_row cd_asked_row ct_asked_row : Value} {od_asked_row an_asked_row : Option Addr} {sl_asked_row : Array (Option Value)}
    {oc_first_by_fours kV_first_by_fours dc_first_by_fours pm_first_by_fours cd_first_by_fours ct_first_by_fours : Value} {od_first_by_fours an_first_by_fours : Option Addr} {sl_first_by_fours : Array (Option Value)}
    {oc_first_by_ones kV_first_by_ones dc_first_by_ones pm_first_by_ones cd_first_by_ones ct_first_by_ones : Value} {od_first_by_ones an_first_by_ones : Option Addr} {sl_first_by_ones : Array (Option Value)}
    {oc_first_of kV_first_of dc_first_of pm_first_of cd_first_of ct_first_of : Value} {od_first_of an_first_of : Option Addr} {sl_first_of : Array (Option Value)}
    {oc_both kV_both dc_both pm_both cd_both ct_both : Value} {od_both an_both : Option Addr} {sl_both : Array (Option Value)}
    {oc_places_of kV_places_of dc_places_of pm_places_of cd_places_of ct_places_of : Value} {od_places_of an_places_of : Option Addr} {sl_places_of : Array (Option Value)}
    {oc_at_place kV_at_place dc_at_place pm_at_place cd_at_place ct_at_place : Value} {od_at_place an_at_place : Option Addr} {sl_at_place : Array (Option Value)}
    {oc_number_at kV_number_at dc_number_at pm_number_at cd_number_at ct_number_at : Value} {od_number_at an_number_at : Option Addr} {sl_number_at : Array (Option Value)}
    {oc_row kV_row dc_row pm_row cd_row ct_row : Value} {od_row an_row : Option Addr} {sl_row : Array (Option Value)}
    {oc_three_by kV_three_by dc_three_by pm_three_by cd_three_by ct_three_by : Value} {od_three_by an_three_by : Option Addr} {sl_three_by : Array (Option Value)}
    {oc_three_of kV_three_of dc_three_of pm_three_of cd_three_of ct_three_of : Value} {od_three_of an_three_of : Option Addr} {sl_three_of : Array (Option Value)}
    {oc__law_number kV__law_number dc__law_number pm__law_number cd__law_number ct__law_number : Value} {od__law_number an__law_number : Option Addr} {sl__law_number : Array (Option Value)}
    {oc__law_last kV__law_last dc__law_last pm__law_last cd__law_last ct__law_last : Value} {od__law_last an__law_last : Option Addr} {sl__law_last : Array (Option Value)}
    {oc__law_whole kV__law_whole dc__law_whole pm__law_whole cd__law_whole ct__law_whole : Value} {od__law_whole an__law_whole : Option Addr} {sl__law_whole : Array (Option Value)}
    {oc__law_can_right kV__law_can_right dc__law_can_right pm__law_can_right cd__law_can_right ct__law_can_right : Value} {od__law_can_right an__law_can_right : Option Addr} {sl__law_can_right : Array (Option Value)}
    {oc__law_none_right kV__law_none_right dc__law_none_right pm__law_none_right cd__law_none_right ct__law_none_right : Value} {od__law_none_right an__law_none_right : Option Addr} {sl__law_none_right : Array (Option Value)}
    {oc_law kV_law dc_law pm_law cd_law ct_law : Value} {od_law an_law : Option Addr} {sl_law : Array (Option Value)}
    {n_F n_F1 n_F4 n_F5 : Nat} {dd_F1 dd_F4 dd_F5 : Option Addr} {ss_F1 ss_F4 ss_F5 : Array (Option Value)}
    (z_Answer : PySem.W.nsIn K mainGlobals "Answer" = some (some (.ref e_Answer)))
    (z_Can : PySem.W.nsIn K mainGlobals "Can" = some (some (.ref e_Can)))
    (z_Barred : PySem.W.nsIn K mainGlobals "Barred" = some (some (.ref e_Barred)))
    (z_Good : PySem.W.nsIn K mainGlobals "Good" = some (some (.ref e_Good)))
    (z_Off : PySem.W.nsIn K mainGlobals "Off" = some (some (.ref e_Off)))
    (z_PairError : PySem.W.nsIn K mainGlobals "PairError" = some (some (.ref e_PairError)))
    (z_BadLast : PySem.W.nsIn K mainGlobals "BadLast" = some (some (.ref e_BadLast)))
    (z_BadNumber : PySem.W.nsIn K mainGlobals "BadNumber" = some (some (.ref e_BadNumber)))
    (z_BadPlace : PySem.W.nsIn K mainGlobals "BadPlace" = some (some (.ref e_BadPlace)))
    (z_BadRow : PySem.W.nsIn K mainGlobals "BadRow" = some (some (.ref e_BadRow)))
    (z_NoRow : PySem.W.nsIn K mainGlobals "NoRow" = some (some (.ref e_NoRow)))
    (a_Can_shows : PySem.W.findIn K (.ref e_Can) "shows" = some (some (.ref f_Can_shows)))
    (i_Can_shows : PySem.W.isFn K (.ref f_Can_shows) = true)
    (l_Can_shows : K.lookup f_Can_shows = some ⟨oc_Can_shows, od_Can_shows, .func (PySem.W.fnOf "shows" "Can.shows" (defArgs s_Can_shows) (defBody s_Can_shows) (defScope s_Can_shows) .none kV_Can_shows dc_Can_shows pm_Can_shows an_Can_shows cd_Can_shows ct_Can_shows), sl_Can_shows⟩)
    (c_Can_shows : PySem.W.codeIn K cd_Can_shows "Can.shows" = true)
    (k_Can_shows : PySem.W.keepIn K (.ref f_Can_shows) = true)
    (a_Barred_shows : PySem.W.findIn K (.ref e_Barred) "shows" = some (some (.ref f_Barred_shows)))
    (i_Barred_shows : PySem.W.isFn K (.ref f_Barred_shows) = true)
    (l_Barred_shows : K.lookup f_Barred_shows = some ⟨oc_Barred_shows, od_Barred_shows, .func (PySem.W.fnOf "shows" "Barred.shows" (defArgs s_Barred_shows) (defBody s_Barred_shows) (defScope s_Barred_shows) .none kV_Barred_shows dc_Barred_shows pm_Barred_shows an_Barred_shows cd_Barred_shows ct_Barred_shows), sl_Barred_shows⟩)
    (c_Barred_shows : PySem.W.codeIn K cd_Barred_shows "Barred.shows" = true)
    (k_Barred_shows : PySem.W.keepIn K (.ref f_Barred_shows) = true)
    (a_is_right : PySem.W.nsIn K mainGlobals "is_right" = some (some (.ref f_is_right)))
    (l_is_right : K.lookup f_is_right = some ⟨oc_is_right, od_is_right, .func (PySem.W.fnOf "is_right" "is_right" (defArgs s_is_right) (defBody s_is_right) (defScope s_is_right) .none kV_is_right dc_is_right pm_is_right an_is_right cd_is_right ct_is_right), sl_is_right⟩)
    (c_is_right : PySem.W.codeIn K cd_is_right "is_right" = true)
    (k_is_right : PySem.W.keepIn K (.ref f_is_right) = true)
    (a_Good_shows : PySem.W.findIn K (.ref e_Good) "shows" = some (some (.ref f_Good_shows)))
    (i_Good_shows : PySem.W.isFn K (.ref f_Good_shows) = true)
    (l_Good_shows : K.lookup f_Good_shows = some ⟨oc_Good_shows, od_Good_shows, .func (PySem.W.fnOf "shows" "Good.shows" (defArgs s_Good_shows) (defBody s_Good_shows) (defScope s_Good_shows) .none kV_Good_shows dc_Good_shows pm_Good_shows an_Good_shows cd_Good_shows ct_Good_shows), sl_Good_shows⟩)
    (c_Good_shows : PySem.W.codeIn K cd_Good_shows "Good.shows" = true)
    (k_Good_shows : PySem.W.keepIn K (.ref f_Good_shows) = true)
    (a_Off___init__ : PySem.W.findIn K (.ref e_Off) "__init__" = some (some (.ref f_Off___init__)))
    (i_Off___init__ : PySem.W.isFn K (.ref f_Off___init__) = true)
    (l_Off___init__ : K.lookup f_Off___init__ = some ⟨oc_Off___init__, od_Off___init__, .func (PySem.W.fnOf "__init__" "Off.__init__" (defArgs s_Off___init__) (defBody s_Off___init__) (defScope s_Off___init__) .none kV_Off___init__ dc_Off___init__ pm_Off___init__ an_Off___init__ cd_Off___init__ ct_Off___init__), sl_Off___init__⟩)
    (c_Off___init__ : PySem.W.codeIn K cd_Off___init__ "Off.__init__" = true)
    (k_Off___init__ : PySem.W.keepIn K (.ref f_Off___init__) = true)
    (a_Off_shows : PySem.W.findIn K (.ref e_Off) "shows" = some (some (.ref f_Off_shows)))
    (i_Off_shows : PySem.W.isFn K (.ref f_Off_shows) = true)
    (l_Off_shows : K.lookup f_Off_shows = some ⟨oc_Off_shows, od_Off_shows, .func (PySem.W.fnOf "shows" "Off.shows" (defArgs s_Off_shows) (defBody s_Off_shows) (defScope s_Off_shows) .none kV_Off_shows dc_Off_shows pm_Off_shows an_Off_shows cd_Off_shows ct_Off_shows), sl_Off_shows⟩)
    (c_Off_shows : PySem.W.codeIn K cd_Off_shows "Off.shows" = true)
    (k_Off_shows : PySem.W.keepIn K (.ref f_Off_shows) = true)
    (a_is_number : PySem.W.nsIn K mainGlobals "is_number" = some (some (.ref f_is_number)))
    (l_is_number : K.lookup f_is_number = some ⟨oc_is_number, od_is_number, .func (PySem.W.fnOf "is_number" "is_number" (defArgs s_is_number) (defBody s_is_number) (defScope s_is_number) .none kV_is_number dc_is_number pm_is_number an_is_number cd_is_number ct_is_number), sl_is_number⟩)
    (c_is_number : PySem.W.codeIn K cd_is_number "is_number" = true)
    (k_is_number : PySem.W.keepIn K (.ref f_is_number) = true)
    (a_asked_last : PySem.W.nsIn K mainGlobals "asked_last" = some (some (.ref f_asked_last)))
    (l_asked_last : K.lookup f_asked_last = some ⟨oc_asked_last, od_asked_last, .func (PySem.W.fnOf "asked_last" "asked_last" (defArgs s_asked_last) (defBody s_asked_last) (defScope s_asked_last) .none kV_asked_last dc_asked_last pm_asked_last an_asked_last cd_asked_last ct_asked_last), sl_asked_last⟩)
    (c_asked_last : PySem.W.codeIn K cd_asked_last "asked_last" = true)
    (k_asked_last : PySem.W.keepIn K (.ref f_asked_last) = true)
    (a_can : PySem.W.nsIn K mainGlobals "can" = some (some (.ref f_can)))
    (l_can : K.lookup f_can = some ⟨oc_can, od_can, .func (PySem.W.fnOf "can" "can" (defArgs s_can) (defBody s_can) (defScope s_can) .none kV_can dc_can pm_can an_can cd_can ct_can), sl_can⟩)
    (c_can : PySem.W.codeIn K cd_can "can" = true)
    (k_can : PySem.W.keepIn K (.ref f_can) = true)
    (a_asked_row : PySem.W.nsIn K mainGlobals "asked_row" = some (some (.ref f_asked_row)))
    (l_asked_row : K.lookup f_asked_row = some ⟨oc_asked_row, od_asked_row, .func (PySem.W.fnOf "asked_row" "asked_row" (defArgs s_asked_row) (defBody s_asked_row) (defScope s_asked_row) .none kV_asked_row dc_asked_row pm_asked_row an_asked_row cd_asked_row ct_asked_row), sl_asked_row⟩)
    (c_asked_row : PySem.W.codeIn K cd_asked_row "asked_row" = true)
    (k_asked_row : PySem.W.keepIn K (.ref f_asked_row) = true)
    (a_first_by_fours : PySem.W.nsIn K mainGlobals "first_by_fours" = some (some (.ref f_first_by_fours)))
    (l_first_by_fours : K.lookup f_first_by_fours = some ⟨oc_first_by_fours, od_first_by_fours, .func (PySem.W.fnOf "first_by_fours" "first_by_fours" (defArgs s_first_by_fours) (defBody s_first_by_fours) (defScope s_first_by_fours) .none kV_first_by_fours dc_first_by_fours pm_first_by_fours an_first_by_fours cd_first_by_fours ct_first_by_fours), sl_first_by_fours⟩)
    (c_first_by_fours : PySem.W.codeIn K cd_first_by_fours "first_by_fours" = true)
    (k_first_by_fours : PySem.W.keepIn K (.ref f_first_by_fours) = true)
    (a_first_by_ones : PySem.W.nsIn K mainGlobals "first_by_ones" = some (some (.ref f_first_by_ones)))
    (l_first_by_ones : K.lookup f_first_by_ones = some ⟨oc_first_by_ones, od_first_by_ones, .func (PySem.W.fnOf "first_by_ones" "first_by_ones" (defArgs s_first_by_ones) (defBody s_first_by_ones) (defScope s_first_by_ones) .none kV_first_by_ones dc_first_by_ones pm_first_by_ones an_first_by_ones cd_first_by_ones ct_first_by_ones), sl_first_by_ones⟩)
    (c_first_by_ones : PySem.W.codeIn K cd_first_by_ones "first_by_ones" = true)
    (k_first_by_ones : PySem.W.keepIn K (.ref f_first_by_ones) = true)
    (a_first_of : PySem.W.nsIn K mainGlobals "first_of" = some (some (.ref f_first_of)))
    (l_first_of : K.lookup f_first_of = some ⟨oc_first_of, od_first_of, .func (PySem.W.fnOf "first_of" "first_of" (defArgs s_first_of) (defBody s_first_of) (defScope s_first_of) .none kV_first_of dc_first_of pm_first_of an_first_of cd_first_of ct_first_of), sl_first_of⟩)
    (c_first_of : PySem.W.codeIn K cd_first_of "first_of" = true)
    (k_first_of : PySem.W.keepIn K (.ref f_first_of) = true)
    (a_both : PySem.W.nsIn K mainGlobals "both" = some (some (.ref f_both)))
    (l_both : K.lookup f_both = some ⟨oc_both, od_both, .func (PySem.W.fnOf "both" "both" (defArgs s_both) (defBody s_both) (defScope s_both) .none kV_both dc_both pm_both an_both cd_both ct_both), sl_both⟩)
    (c_both : PySem.W.codeIn K cd_both "both" = true)
    (k_both : PySem.W.keepIn K (.ref f_both) = true)
    (a_places_of : PySem.W.nsIn K mainGlobals "places_of" = some (some (.ref f_places_of)))
    (l_places_of : K.lookup f_places_of = some ⟨oc_places_of, od_places_of, .func (PySem.W.fnOf "places_of" "places_of" (defArgs s_places_of) (defBody s_places_of) (defScope s_places_of) .none kV_places_of dc_places_of pm_places_of an_places_of cd_places_of ct_places_of), sl_places_of⟩)
    (c_places_of : PySem.W.codeIn K cd_places_of "places_of" = true)
    (k_places_of : PySem.W.keepIn K (.ref f_places_of) = true)
    (a_at_place : PySem.W.nsIn K mainGlobals "at_place" = some (some (.ref f_at_place)))
    (l_at_place : K.lookup f_at_place = some ⟨oc_at_place, od_at_place, .func (PySem.W.fnOf "at_place" "at_place" (defArgs s_at_place) (defBody s_at_place) (defScope s_at_place) .none kV_at_place dc_at_place pm_at_place an_at_place cd_at_place ct_at_place), sl_at_place⟩)
    (c_at_place : PySem.W.codeIn K cd_at_place "at_place" = true)
    (k_at_place : PySem.W.keepIn K (.ref f_at_place) = true)
    (a_number_at : PySem.W.nsIn K mainGlobals "number_at" = some (some (.ref f_number_at)))
    (l_number_at : K.lookup f_number_at = some ⟨oc_number_at, od_number_at, .func (PySem.W.fnOf "number_at" "number_at" (defArgs s_number_at) (defBody s_number_at) (defScope s_number_at) .none kV_number_at dc_number_at pm_number_at an_number_at cd_number_at ct_number_at), sl_number_at⟩)
    (c_number_at : PySem.W.codeIn K cd_number_at "number_at" = true)
    (k_number_at : PySem.W.keepIn K (.ref f_number_at) = true)
    (a_row : PySem.W.nsIn K mainGlobals "row" = some (some (.ref f_row)))
    (l_row : K.lookup f_row = some ⟨oc_row, od_row, .func (PySem.W.fnOf "row" "row" (defArgs s_row) (defBody s_row) (defScope s_row) .none kV_row dc_row pm_row an_row cd_row ct_row), sl_row⟩)
    (c_row : PySem.W.codeIn K cd_row "row" = true)
    (k_row : PySem.W.keepIn K (.ref f_row) = true)
    (a_three_by : PySem.W.nsIn K mainGlobals "three_by" = some (some (.ref f_three_by)))
    (l_three_by : K.lookup f_three_by = some ⟨oc_three_by, od_three_by, .func (PySem.W.fnOf "three_by" "three_by" (defArgs s_three_by) (defBody s_three_by) (defScope s_three_by) .none kV_three_by dc_three_by pm_three_by an_three_by cd_three_by ct_three_by), sl_three_by⟩)
    (c_three_by : PySem.W.codeIn K cd_three_by "three_by" = true)
    (k_three_by : PySem.W.keepIn K (.ref f_three_by) = true)
    (a_three_of : PySem.W.nsIn K mainGlobals "three_of" = some (some (.ref f_three_of)))
    (l_three_of : K.lookup f_three_of = some ⟨oc_three_of, od_three_of, .func (PySem.W.fnOf "three_of" "three_of" (defArgs s_three_of) (defBody s_three_of) (defScope s_three_of) .none kV_three_of dc_three_of pm_three_of an_three_of cd_three_of ct_three_of), sl_three_of⟩)
    (c_three_of : PySem.W.codeIn K cd_three_of "three_of" = true)
    (k_three_of : PySem.W.keepIn K (.ref f_three_of) = true)
    (a__law_number : PySem.W.nsIn K mainGlobals "_law_number" = some (some (.ref f__law_number)))
    (l__law_number : K.lookup f__law_number = some ⟨oc__law_number, od__law_number, .func (PySem.W.fnOf "_law_number" "_law_number" (defArgs s__law_number) (defBody s__law_number) (defScope s__law_number) .none kV__law_number dc__law_number pm__law_number an__law_number cd__law_number ct__law_number), sl__law_number⟩)
    (c__law_number : PySem.W.codeIn K cd__law_number "_law_number" = true)
    (k__law_number : PySem.W.keepIn K (.ref f__law_number) = true)
    (a__law_last : PySem.W.nsIn K mainGlobals "_law_last" = some (some (.ref f__law_last)))
    (l__law_last : K.lookup f__law_last = some ⟨oc__law_last, od__law_last, .func (PySem.W.fnOf "_law_last" "_law_last" (defArgs s__law_last) (defBody s__law_last) (defScope s__law_last) .none kV__law_last dc__law_last pm__law_last an__law_last cd__law_last ct__law_last), sl__law_last⟩)
    (c__law_last : PySem.W.codeIn K cd__law_last "_law_last" = true)
    (k__law_last : PySem.W.keepIn K (.ref f__law_last) = true)
    (a__law_whole : PySem.W.nsIn K mainGlobals "_law_whole" = some (some (.ref f__law_whole)))
    (l__law_whole : K.lookup f__law_whole = some ⟨oc__law_whole, od__law_whole, .func (PySem.W.fnOf "_law_whole" "_law_whole" (defArgs s__law_whole) (defBody s__law_whole) (defScope s__law_whole) .none kV__law_whole dc__law_whole pm__law_whole an__law_whole cd__law_whole ct__law_whole), sl__law_whole⟩)
    (c__law_whole : PySem.W.codeIn K cd__law_whole "_law_whole" = true)
    (k__law_whole : PySem.W.keepIn K (.ref f__law_whole) = true)
    (a__law_can_right : PySem.W.nsIn K mainGlobals "_law_can_right" = some (some (.ref f__law_can_right)))
    (l__law_can_right : K.lookup f__law_can_right = some ⟨oc__law_can_right, od__law_can_right, .func (PySem.W.fnOf "_law_can_right" "_law_can_right" (defArgs s__law_can_right) (defBody s__law_can_right) (defScope s__law_can_right) .none kV__law_can_right dc__law_can_right pm__law_can_right an__law_can_right cd__law_can_right ct__law_can_right), sl__law_can_right⟩)
    (c__law_can_right : PySem.W.codeIn K cd__law_can_right "_law_can_right" = true)
    (k__law_can_right : PySem.W.keepIn K (.ref f__law_can_right) = true)
    (a__law_none_right : PySem.W.nsIn K mainGlobals "_law_none_right" = some (some (.ref f__law_none_right)))
    (l__law_none_right : K.lookup f__law_none_right = some ⟨oc__law_none_right, od__law_none_right, .func (PySem.W.fnOf "_law_none_right" "_law_none_right" (defArgs s__law_none_right) (defBody s__law_none_right) (defScope s__law_none_right) .none kV__law_none_right dc__law_none_right pm__law_none_right an__law_none_right cd__law_none_right ct__law_none_right), sl__law_none_right⟩)
    (c__law_none_right : PySem.W.codeIn K cd__law_none_right "_law_none_right" = true)
    (k__law_none_right : PySem.W.keepIn K (.ref f__law_none_right) = true)
    (a_law : PySem.W.nsIn K mainGlobals "law" = some (some (.ref f_law)))
    (l_law : K.lookup f_law = some ⟨oc_law, od_law, .func (PySem.W.fnOf "law" "law" (defArgs s_law) (defBody s_law) (defScope s_law) .none kV_law dc_law pm_law an_law cd_law ct_law), sl_law⟩)
    (c_law : PySem.W.codeIn K cd_law "law" = true)
    (k_law : PySem.W.keepIn K (.ref f_law) = true)
    (p1_Can : PySem.W.plainGet K e_Can Str.empty = true)
    (p2_Can : PySem.W.hasDictIn K e_Can = true)
    (p3_Can : PySem.W.plainOver K e_Can = true)
    (p4_Can : PySem.W.findIn K (.ref e_Can) "__setattr__" = some (some (.builtin "object.__setattr__")))
    (p5_Can : PySem.W.findIn K (.ref e_Can) "__class__" = some (some (.builtin "object.__class__")))
    (p6_Can : PySem.W.specialIn K (.builtin "object.__class__") "__get__" = some (some (.builtin "getset_descriptor.__get__")))
    (p7_Can : PySem.W.takesIn K (.builtin "object.__class__") = some true)
    (p8_Can : PySem.W.mroIn K e_Can (.type "object") = some true)
    (p9_Can : PySem.W.makesIn K e_Can = true)
    (pk_Can : PySem.W.keepIn K (.ref e_Can) = true)
    (ni_Can : PySem.W.findIn K (.ref e_Can) "__init__" = some (some (.builtin "object.__init__")))
    (p1_Barred : PySem.W.plainGet K e_Barred Str.empty = true)
    (p2_Barred : PySem.W.hasDictIn K e_Barred = true)
    (p3_Barred : PySem.W.plainOver K e_Barred = true)
    (p4_Barred : PySem.W.findIn K (.ref e_Barred) "__setattr__" = some (some (.builtin "object.__setattr__")))
    (p5_Barred : PySem.W.findIn K (.ref e_Barred) "__class__" = some (some (.builtin "object.__class__")))
    (p6_Barred : PySem.W.specialIn K (.builtin "object.__class__") "__get__" = some (some (.builtin "getset_descriptor.__get__")))
    (p7_Barred : PySem.W.takesIn K (.builtin "object.__class__") = some true)
    (p8_Barred : PySem.W.mroIn K e_Barred (.type "object") = some true)
    (p9_Barred : PySem.W.makesIn K e_Barred = true)
    (pk_Barred : PySem.W.keepIn K (.ref e_Barred) = true)
    (ni_Barred : PySem.W.findIn K (.ref e_Barred) "__init__" = some (some (.builtin "object.__init__")))
    (p1_Good : PySem.W.plainGet K e_Good Str.empty = true)
    (p2_Good : PySem.W.hasDictIn K e_Good = true)
    (p3_Good : PySem.W.plainOver K e_Good = true)
    (p4_Good : PySem.W.findIn K (.ref e_Good) "__setattr__" = some (some (.builtin "object.__setattr__")))
    (p5_Good : PySem.W.findIn K (.ref e_Good) "__class__" = some (some (.builtin "object.__class__")))
    (p6_Good : PySem.W.specialIn K (.builtin "object.__class__") "__get__" = some (some (.builtin "getset_descriptor.__get__")))
    (p7_Good : PySem.W.takesIn K (.builtin "object.__class__") = some true)
    (p8_Good : PySem.W.mroIn K e_Good (.type "object") = some true)
    (p9_Good : PySem.W.makesIn K e_Good = true)
    (pk_Good : PySem.W.keepIn K (.ref e_Good) = true)
    (ni_Good : PySem.W.findIn K (.ref e_Good) "__init__" = some (some (.builtin "object.__init__")))
    (p1_Off : PySem.W.plainGet K e_Off Str.empty = true)
    (p2_Off : PySem.W.hasDictIn K e_Off = true)
    (p3_Off : PySem.W.plainOver K e_Off = true)
    (p4_Off : PySem.W.findIn K (.ref e_Off) "__setattr__" = some (some (.builtin "object.__setattr__")))
    (p5_Off : PySem.W.findIn K (.ref e_Off) "__class__" = some (some (.builtin "object.__class__")))
    (p6_Off : PySem.W.specialIn K (.builtin "object.__class__") "__get__" = some (some (.builtin "getset_descriptor.__get__")))
    (p7_Off : PySem.W.takesIn K (.builtin "object.__class__") = some true)
    (p8_Off : PySem.W.mroIn K e_Off (.type "object") = some true)
    (p9_Off : PySem.W.makesIn K e_Off = true)
    (pk_Off : PySem.W.keepIn K (.ref e_Off) = true)
    (na_Off : PySem.W.findIn K (.ref e_Off) "number" = some none)
    (x_PairError : PySem.W.excIn K e_PairError [.type "ValueError", .type "Exception", .type "BaseException", .type "object"] "ValueError.__new__" = true)
    (xk_PairError : PySem.W.keepIn K (.ref e_PairError) = true)
    (xs_PairError : PySem.W.subIn K (.ref e_PairError) (.type "BaseException") = some true)
    (xt_PairError : PySem.W.typeIn K (.ref e_PairError) = some (.type "type"))
    (xd_PairError : PySem.W.hasDictIn K e_PairError = true)
    (x_BadLast : PySem.W.excIn K e_BadLast [.type "ValueError", .type "Exception", .type "BaseException", .type "object"] "ValueError.__new__" = true)
    (xk_BadLast : PySem.W.keepIn K (.ref e_BadLast) = true)
    (xs_BadLast : PySem.W.subIn K (.ref e_BadLast) (.type "BaseException") = some true)
    (xt_BadLast : PySem.W.typeIn K (.ref e_BadLast) = some (.type "type"))
    (xd_BadLast : PySem.W.hasDictIn K e_BadLast = true)
    (yg_BadLast : PySem.W.findIn K (.ref e_BadLast) "__getattribute__" = some (some (.builtin "BaseException.__getattribute__")))
    (yh_BadLast : PySem.W.findIn K (.ref e_BadLast) "__getattr__" = some none)
    (ya_BadLast : PySem.W.findIn K (.ref e_BadLast) "__class__" = some (some (.builtin "object.__class__")))
    (yn_BadLast : PySem.W.specialIn K (.builtin "object.__class__") "__get__" = some (some (.builtin "getset_descriptor.__get__")))
    (yt_BadLast : PySem.W.takesIn K (.builtin "object.__class__") = some true)
    (ym_BadLast : PySem.W.mroIn K e_BadLast (.type "object") = some true)
    (yp_BadLast : PySem.W.subIn K (.ref e_BadLast) (.ref e_PairError) = some true)
    (kv_BadLast : PySem.W.kitOne K (.ref e_BadLast) (.type "ValueError") = some true)
    (x_BadNumber : PySem.W.excIn K e_BadNumber [.type "ValueError", .type "Exception", .type "BaseException", .type "object"] "ValueError.__new__" = true)
    (xk_BadNumber : PySem.W.keepIn K (.ref e_BadNumber) = true)
    (xs_BadNumber : PySem.W.subIn K (.ref e_BadNumber) (.type "BaseException") = some true)
    (xt_BadNumber : PySem.W.typeIn K (.ref e_BadNumber) = some (.type "type"))
    (xd_BadNumber : PySem.W.hasDictIn K e_BadNumber = true)
    (yg_BadNumber : PySem.W.findIn K (.ref e_BadNumber) "__getattribute__" = some (some (.builtin "BaseException.__getattribute__")))
    (yh_BadNumber : PySem.W.findIn K (.ref e_BadNumber) "__getattr__" = some none)
    (ya_BadNumber : PySem.W.findIn K (.ref e_BadNumber) "__class__" = some (some (.builtin "object.__class__")))
    (yn_BadNumber : PySem.W.specialIn K (.builtin "object.__class__") "__get__" = some (some (.builtin "getset_descriptor.__get__")))
    (yt_BadNumber : PySem.W.takesIn K (.builtin "object.__class__") = some true)
    (ym_BadNumber : PySem.W.mroIn K e_BadNumber (.type "object") = some true)
    (yp_BadNumber : PySem.W.subIn K (.ref e_BadNumber) (.ref e_PairError) = some true)
    (kv_BadNumber : PySem.W.kitOne K (.ref e_BadNumber) (.type "ValueError") = some true)
    (x_BadPlace : PySem.W.excIn K e_BadPlace [.type "ValueError", .type "Exception", .type "BaseException", .type "object"] "ValueError.__new__" = true)
    (xk_BadPlace : PySem.W.keepIn K (.ref e_BadPlace) = true)
    (xs_BadPlace : PySem.W.subIn K (.ref e_BadPlace) (.type "BaseException") = some true)
    (xt_BadPlace : PySem.W.typeIn K (.ref e_BadPlace) = some (.type "type"))
    (xd_BadPlace : PySem.W.hasDictIn K e_BadPlace = true)
    (yg_BadPlace : PySem.W.findIn K (.ref e_BadPlace) "__getattribute__" = some (some (.builtin "BaseException.__getattribute__")))
    (yh_BadPlace : PySem.W.findIn K (.ref e_BadPlace) "__getattr__" = some none)
    (ya_BadPlace : PySem.W.findIn K (.ref e_BadPlace) "__class__" = some (some (.builtin "object.__class__")))
    (yn_BadPlace : PySem.W.specialIn K (.builtin "object.__class__") "__get__" = some (some (.builtin "getset_descriptor.__get__")))
    (yt_BadPlace : PySem.W.takesIn K (.builtin "object.__class__") = some true)
    (ym_BadPlace : PySem.W.mroIn K e_BadPlace (.type "object") = some true)
    (yp_BadPlace : PySem.W.subIn K (.ref e_BadPlace) (.ref e_PairError) = some true)
    (kv_BadPlace : PySem.W.kitOne K (.ref e_BadPlace) (.type "ValueError") = some true)
    (x_BadRow : PySem.W.excIn K e_BadRow [.type "ValueError", .type "Exception", .type "BaseException", .type "object"] "ValueError.__new__" = true)
    (xk_BadRow : PySem.W.keepIn K (.ref e_BadRow) = true)
    (xs_BadRow : PySem.W.subIn K (.ref e_BadRow) (.type "BaseException") = some true)
    (xt_BadRow : PySem.W.typeIn K (.ref e_BadRow) = some (.type "type"))
    (xd_BadRow : PySem.W.hasDictIn K e_BadRow = true)
    (yg_BadRow : PySem.W.findIn K (.ref e_BadRow) "__getattribute__" = some (some (.builtin "BaseException.__getattribute__")))
    (yh_BadRow : PySem.W.findIn K (.ref e_BadRow) "__getattr__" = some none)
    (ya_BadRow : PySem.W.findIn K (.ref e_BadRow) "__class__" = some (some (.builtin "object.__class__")))
    (yn_BadRow : PySem.W.specialIn K (.builtin "object.__class__") "__get__" = some (some (.builtin "getset_descriptor.__get__")))
    (yt_BadRow : PySem.W.takesIn K (.builtin "object.__class__") = some true)
    (ym_BadRow : PySem.W.mroIn K e_BadRow (.type "object") = some true)
    (yp_BadRow : PySem.W.subIn K (.ref e_BadRow) (.ref e_PairError) = some true)
    (kv_BadRow : PySem.W.kitOne K (.ref e_BadRow) (.type "ValueError") = some true)
    (x_NoRow : PySem.W.excIn K e_NoRow [.type "ValueError", .type "Exception", .type "BaseException", .type "object"] "ValueError.__new__" = true)
    (xk_NoRow : PySem.W.keepIn K (.ref e_NoRow) = true)
    (xs_NoRow : PySem.W.subIn K (.ref e_NoRow) (.type "BaseException") = some true)
    (xt_NoRow : PySem.W.typeIn K (.ref e_NoRow) = some (.type "type"))
    (xd_NoRow : PySem.W.hasDictIn K e_NoRow = true)
    (yg_NoRow : PySem.W.findIn K (.ref e_NoRow) "__getattribute__" = some (some (.builtin "BaseException.__getattribute__")))
    (yh_NoRow : PySem.W.findIn K (.ref e_NoRow) "__getattr__" = some none)
    (ya_NoRow : PySem.W.findIn K (.ref e_NoRow) "__class__" = some (some (.builtin "object.__class__")))
    (yn_NoRow : PySem.W.specialIn K (.builtin "object.__class__") "__get__" = some (some (.builtin "getset_descriptor.__get__")))
    (yt_NoRow : PySem.W.takesIn K (.builtin "object.__class__") = some true)
    (ym_NoRow : PySem.W.mroIn K e_NoRow (.type "object") = some true)
    (yp_NoRow : PySem.W.subIn K (.ref e_NoRow) (.ref e_PairError) = some true)
    (kv_NoRow : PySem.W.kitOne K (.ref e_NoRow) (.type "ValueError") = some true)
    (z_GREATEST : PySem.W.nsIn K mainGlobals "GREATEST" = some (some (.int 100 t_GREATEST)))
    (z_FIRSTS : PySem.W.nsIn K mainGlobals "FIRSTS" = some (some (.ref e_FIRSTS)))
    (l_FIRSTS : K.lookup e_FIRSTS = some ⟨.type "dict", none, .dict #[⟨1, .int 1 t_F1, .ref e_F1⟩, ⟨4, .int 4 t_F4, .ref e_F4⟩, ⟨5, .int 5 t_F5, .ref e_F5⟩] n_F, #[]⟩)
    (l_F1 : K.lookup e_F1 = some ⟨.type "tuple", dd_F1, .seq #[.int 1 t_Fa0] n_F1, ss_F1⟩)
    (l_F4 : K.lookup e_F4 = some ⟨.type "tuple", dd_F4, .seq #[.int 1 t_Fa1, .int 5 t_Fa2, .int 3 t_Fa3, .int 4 t_Fa4] n_F4, ss_F4⟩)
    (l_F5 : K.lookup e_F5 = some ⟨.type "tuple", dd_F5, .seq #[.int 8 t_Fa5, .int 3 t_Fa6, .int 1 t_Fa7, .int 6 t_Fa8, .int 2 t_Fa9] n_F5, ss_F5⟩)
    (m_ValueError : PySem.W.nsIn K mainGlobals "ValueError" = some none)
    (m_abs : PySem.W.nsIn K mainGlobals "abs" = some none)
    (m_all : PySem.W.nsIn K mainGlobals "all" = some none)
    (m_any : PySem.W.nsIn K mainGlobals "any" = some none)
    (m_bool : PySem.W.nsIn K mainGlobals "bool" = some none)
    (m_enumerate : PySem.W.nsIn K mainGlobals "enumerate" = some none)
    (m_int : PySem.W.nsIn K mainGlobals "int" = some none)
    (m_isinstance : PySem.W.nsIn K mainGlobals "isinstance" = some none)
    (m_len : PySem.W.nsIn K mainGlobals "len" = some none)
    (m_list : PySem.W.nsIn K mainGlobals "list" = some none)
    (m_min : PySem.W.nsIn K mainGlobals "min" = some none)
    (m_range : PySem.W.nsIn K mainGlobals "range" = some none)
    (m_sorted : PySem.W.nsIn K mainGlobals "sorted" = some none)
    (m_sum : PySem.W.nsIn K mainGlobals "sum" = some none)
    (ke_BadLast_BadLast : PySem.W.kitOne K (.ref e_BadLast) (.ref e_BadLast) = some true)
    (ke_BadLast_BadNumber : PySem.W.kitOne K (.ref e_BadLast) (.ref e_BadNumber) = some false)
    (ke_BadLast_BadPlace : PySem.W.kitOne K (.ref e_BadLast) (.ref e_BadPlace) = some false)
    (ke_BadLast_BadRow : PySem.W.kitOne K (.ref e_BadLast) (.ref e_BadRow) = some false)
    (ke_BadLast_NoRow : PySem.W.kitOne K (.ref e_BadLast) (.ref e_NoRow) = some false)
    (ke_BadNumber_BadLast : PySem.W.kitOne K (.ref e_BadNumber) (.ref e_BadLast) = some false)
    (ke_BadNumber_BadNumber : PySem.W.kitOne K (.ref e_BadNumber) (.ref e_BadNumber) = some true)
    (ke_BadNumber_BadPlace : PySem.W.kitOne K (.ref e_BadNumber) (.ref e_BadPlace) = some false)
    (ke_BadNumber_BadRow : PySem.W.kitOne K (.ref e_BadNumber) (.ref e_BadRow) = some false)
    (ke_BadNumber_NoRow : PySem.W.kitOne K (.ref e_BadNumber) (.ref e_NoRow) = some false)
    (ke_BadPlace_BadLast : PySem.W.kitOne K (.ref e_BadPlace) (.ref e_BadLast) = some false)
    (ke_BadPlace_BadNumber : PySem.W.kitOne K (.ref e_BadPlace) (.ref e_BadNumber) = some false)
    (ke_BadPlace_BadPlace : PySem.W.kitOne K (.ref e_BadPlace) (.ref e_BadPlace) = some true)
    (ke_BadPlace_BadRow : PySem.W.kitOne K (.ref e_BadPlace) (.ref e_BadRow) = some false)
    (ke_BadPlace_NoRow : PySem.W.kitOne K (.ref e_BadPlace) (.ref e_NoRow) = some false)
    (ke_BadRow_BadLast : PySem.W.kitOne K (.ref e_BadRow) (.ref e_BadLast) = some false)
    (ke_BadRow_BadNumber : PySem.W.kitOne K (.ref e_BadRow) (.ref e_BadNumber) = some false)
    (ke_BadRow_BadPlace : PySem.W.kitOne K (.ref e_BadRow) (.ref e_BadPlace) = some false)
    (ke_BadRow_BadRow : PySem.W.kitOne K (.ref e_BadRow) (.ref e_BadRow) = some true)
    (ke_BadRow_NoRow : PySem.W.kitOne K (.ref e_BadRow) (.ref e_NoRow) = some false)
    (ke_NoRow_BadLast : PySem.W.kitOne K (.ref e_NoRow) (.ref e_BadLast) = some false)
    (ke_NoRow_BadNumber : PySem.W.kitOne K (.ref e_NoRow) (.ref e_BadNumber) = some false)
    (ke_NoRow_BadPlace : PySem.W.kitOne K (.ref e_NoRow) (.ref e_BadPlace) = some false)
    (ke_NoRow_BadRow : PySem.W.kitOne K (.ref e_NoRow) (.ref e_BadRow) = some false)
    (ke_NoRow_NoRow : PySem.W.kitOne K (.ref e_NoRow) (.ref e_NoRow) = some true)
    (kit_Can_Answer : PySem.W.kitOne K (.ref e_Can) (.ref e_Answer) = some true)
    (kit_Can_Can : PySem.W.kitOne K (.ref e_Can) (.ref e_Can) = some true)
    (kit_Can_Barred : PySem.W.kitOne K (.ref e_Can) (.ref e_Barred) = some false)
    (kit_Can_Good : PySem.W.kitOne K (.ref e_Can) (.ref e_Good) = some false)
    (kit_Can_Off : PySem.W.kitOne K (.ref e_Can) (.ref e_Off) = some false)
    (kit_Barred_Answer : PySem.W.kitOne K (.ref e_Barred) (.ref e_Answer) = some true)
    (kit_Barred_Can : PySem.W.kitOne K (.ref e_Barred) (.ref e_Can) = some false)
    (kit_Barred_Barred : PySem.W.kitOne K (.ref e_Barred) (.ref e_Barred) = some true)
    (kit_Barred_Good : PySem.W.kitOne K (.ref e_Barred) (.ref e_Good) = some false)
    (kit_Barred_Off : PySem.W.kitOne K (.ref e_Barred) (.ref e_Off) = some false)
    (kit_Good_Answer : PySem.W.kitOne K (.ref e_Good) (.ref e_Answer) = some true)
    (kit_Good_Can : PySem.W.kitOne K (.ref e_Good) (.ref e_Can) = some false)
    (kit_Good_Barred : PySem.W.kitOne K (.ref e_Good) (.ref e_Barred) = some false)
    (kit_Good_Good : PySem.W.kitOne K (.ref e_Good) (.ref e_Good) = some true)
    (kit_Good_Off : PySem.W.kitOne K (.ref e_Good) (.ref e_Off) = some false)
    (kit_Off_Answer : PySem.W.kitOne K (.ref e_Off) (.ref e_Answer) = some true)
    (kit_Off_Can : PySem.W.kitOne K (.ref e_Off) (.ref e_Can) = some false)
    (kit_Off_Barred : PySem.W.kitOne K (.ref e_Off) (.ref e_Barred) = some false)
    (kit_Off_Good : PySem.W.kitOne K (.ref e_Off) (.ref e_Good) = some false)
    (kit_Off_Off : PySem.W.kitOne K (.ref e_Off) (.ref e_Off) = some true) :
    ∃ fd : FuncData, (∀ (s : Shared) (v : Value), BindsTo s fd ⟨[v], []⟩ [("_law_script", v)]) ∧ ∀ base : Heap, K.In base → base.Ns mainGlobals mg → FnOk l.prog w K mg base CX0 7 fa fd ["_law_script"] (sp_law K) := by
  have e := hfa.symm.trans (PySem.W.mg_of X G a_law)
  cases e
  exact ⟨PySem.W.fnOf "law" "law" (defArgs s_law) (defBody s_law) (defScope s_law) .none kV_law dc_law pm_law an_law cd_law ct_law, fun s v => .of_eq rfl, fun base _ _ => ok_law (all_tx X G z_Answer z_Can z_Barred z_Good z_Off z_PairError z_BadLast z_BadNumber z_BadPlace z_BadRow z_NoRow a_Can_shows i_Can_shows l_Can_shows c_Can_shows k_Can_shows a_Barred_shows i_Barred_shows l_Barred_shows c_Barred_shows k_Barred_shows a_is_right l_is_right c_is_right k_is_right a_Good_shows i_Good_shows l_Good_shows c_Good_shows k_Good_shows a_Off___init__ i_Off___init__ l_Off___init__ c_Off___init__ k_Off___init__ a_Off_shows i_Off_shows l_Off_shows c_Off_shows k_Off_shows a_is_number l_is_number c_is_number k_is_number a_asked_last l_asked_last c_asked_last k_asked_last a_can l_can c_can k_can a_asked_row l_asked_row c_asked_row k_asked_row a_first_by_fours l_first_by_fours c_first_by_fours k_first_by_fours a_first_by_ones l_first_by_ones c_first_by_ones k_first_by_ones a_first_of l_first_of c_first_of k_first_of a_both l_both c_both k_both a_places_of l_places_of c_places_of k_places_of a_at_place l_at_place c_at_place k_at_place a_number_at l_number_at c_number_at k_number_at a_row l_row c_row k_row a_three_by l_three_by c_three_by k_three_by a_three_of l_three_of c_three_of k_three_of a__law_number l__law_number c__law_number k__law_number a__law_last l__law_last c__law_last k__law_last a__law_whole l__law_whole c__law_whole k__law_whole a__law_can_right l__law_can_right c__law_can_right k__law_can_right a__law_none_right l__law_none_right c__law_none_right k__law_none_right a_law l_law c_law k_law p1_Can p2_Can p3_Can p4_Can p5_Can p6_Can p7_Can p8_Can p9_Can pk_Can ni_Can p1_Barred p2_Barred p3_Barred p4_Barred p5_Barred p6_Barred p7_Barred p8_Barred p9_Barred pk_Barred ni_Barred p1_Good p2_Good p3_Good p4_Good p5_Good p6_Good p7_Good p8_Good p9_Good pk_Good ni_Good p1_Off p2_Off p3_Off p4_Off p5_Off p6_Off p7_Off p8_Off p9_Off pk_Off na_Off x_PairError xk_PairError xs_PairError xt_PairError xd_PairError x_BadLast xk_BadLast xs_BadLast xt_BadLast xd_BadLast yg_BadLast yh_BadLast ya_BadLast yn_BadLast yt_BadLast ym_BadLast yp_BadLast kv_BadLast x_BadNumber xk_BadNumber xs_BadNumber xt_BadNumber xd_BadNumber yg_BadNumber yh_BadNumber ya_BadNumber yn_BadNumber yt_BadNumber ym_BadNumber yp_BadNumber kv_BadNumber x_BadPlace xk_BadPlace xs_BadPlace xt_BadPlace xd_BadPlace yg_BadPlace yh_BadPlace ya_BadPlace yn_BadPlace yt_BadPlace ym_BadPlace yp_BadPlace kv_BadPlace x_BadRow xk_BadRow xs_BadRow xt_BadRow xd_BadRow yg_BadRow yh_BadRow ya_BadRow yn_BadRow yt_BadRow ym_BadRow yp_BadRow kv_BadRow x_NoRow xk_NoRow xs_NoRow xt_NoRow xd_NoRow yg_NoRow yh_NoRow ya_NoRow yn_NoRow yt_NoRow ym_NoRow yp_NoRow kv_NoRow z_GREATEST z_FIRSTS l_FIRSTS l_F1 l_F4 l_F5 m_ValueError m_abs m_all m_any m_bool m_enumerate m_int m_isinstance m_len m_list m_min m_range m_sorted m_sum ke_BadLast_BadLast ke_BadLast_BadNumber ke_BadLast_BadPlace ke_BadLast_BadRow ke_BadLast_NoRow ke_BadNumber_BadLast ke_BadNumber_BadNumber ke_BadNumber_BadPlace ke_BadNumber_BadRow ke_BadNumber_NoRow ke_BadPlace_BadLast ke_BadPlace_BadNumber ke_BadPlace_BadPlace ke_BadPlace_BadRow ke_BadPlace_NoRow ke_BadRow_BadLast ke_BadRow_BadNumber ke_BadRow_BadPlace ke_BadRow_BadRow ke_BadRow_NoRow ke_NoRow_BadLast ke_NoRow_BadNumber ke_NoRow_BadPlace ke_NoRow_BadRow ke_NoRow_NoRow kit_Can_Answer kit_Can_Can kit_Can_Barred kit_Can_Good kit_Can_Off kit_Barred_Answer kit_Barred_Can kit_Barred_Barred kit_Barred_Good kit_Barred_Off kit_Good_Answer kit_Good_Can kit_Good_Barred kit_Good_Good kit_Good_Off kit_Off_Answer kit_Off_Can kit_Off_Barred kit_Off_Good kit_Off_Off)⟩
end PA
open PySem PySem.W PyProof.Rows
set_option maxRecDepth 100000 in
set_option maxHeartbeats 0 in
theorem PySem.Challenge.cw_pairsapart_k02_whole_rows_holds : PySem.Challenge.rw_pairsapart_k02_whole_rows.Holds := by
  w_on; o_law; k_head; (case hw => w_witness2)
  k_fill
  refine L2.walk_ofB (l := PySem.Challenge.rw_pairsapart_k02_whole_rows) (n := 63) (k := 7) (x := "_law_script") (CX := fun _ => L2.CX0) (sp := fun w => PA.sp_law _) rfl (by decide) rfl ⟨rfl, by decide, by decide⟩ (fun w h Y => PySem.W.kIn_of Y) ?F (fun _ _ a ns hl hb _ hS => ⟨a, ns, rfl, hS, hl, hb, fun _ => rfl⟩) (fun _ _ _ _ _ h => h)
  case F =>
    intro w mg fa h KX G hmg
    refine' PA.all_mk KX G hmg ?z_Answer ?z_Can ?z_Barred ?z_Good ?z_Off ?z_PairError ?z_BadLast ?z_BadNumber ?z_BadPlace ?z_BadRow ?z_NoRow ?a_Can_shows ?i_Can_shows ?l_Can_shows ?c_Can_shows ?k_Can_shows ?a_Barred_shows ?i_Barred_shows ?l_Barred_shows ?c_Barred_shows ?k_Barred_shows ?a_is_right ?l_is_right ?c_is_right ?k_is_right ?a_Good_shows ?i_Good_shows ?l_Good_shows ?c_Good_shows ?k_Good_shows ?a_Off___init__ ?i_Off___init__ ?l_Off___init__ ?c_Off___init__ ?k_Off___init__ ?a_Off_shows ?i_Off_shows ?l_Off_shows ?c_Off_shows ?k_Off_shows ?a_is_number ?l_is_number ?c_is_number ?k_is_number ?a_asked_last ?l_asked_last ?c_asked_last ?k_asked_last ?a_can ?l_can ?c_can ?k_can ?a_asked_row ?l_asked_row ?c_asked_row ?k_asked_row ?a_first_by_fours ?l_first_by_fours ?c_first_by_fours ?k_first_by_fours ?a_first_by_ones ?l_first_by_ones ?c_first_by_ones ?k_first_by_ones ?a_first_of ?l_first_of ?c_first_of ?k_first_of ?a_both ?l_both ?c_both ?k_both ?a_places_of ?l_places_of ?c_places_of ?k_places_of ?a_at_place ?l_at_place ?c_at_place ?k_at_place ?a_number_at ?l_number_at ?c_number_at ?k_number_at ?a_row ?l_row ?c_row ?k_row ?a_three_by ?l_three_by ?c_three_by ?k_three_by ?a_three_of ?l_three_of ?c_three_of ?k_three_of ?a__law_number ?l__law_number ?c__law_number ?k__law_number ?a__law_last ?l__law_last ?c__law_last ?k__law_last ?a__law_whole ?l__law_whole ?c__law_whole ?k__law_whole ?a__law_can_right ?l__law_can_right ?c__law_can_right ?k__law_can_right ?a__law_none_right ?l__law_none_right ?c__law_none_right ?k__law_none_right ?a_law ?l_law ?c_law ?k_law ?p1_Can ?p2_Can ?p3_Can ?p4_Can ?p5_Can ?p6_Can ?p7_Can ?p8_Can ?p9_Can ?pk_Can ?ni_Can ?p1_Barred ?p2_Barred ?p3_Barred ?p4_Barred ?p5_Barred ?p6_Barred ?p7_Barred ?p8_Barred ?p9_Barred ?pk_Barred ?ni_Barred ?p1_Good ?p2_Good ?p3_Good ?p4_Good ?p5_Good ?p6_Good ?p7_Good ?p8_Good ?p9_Good ?pk_Good ?ni_Good ?p1_Off ?p2_Off ?p3_Off ?p4_Off ?p5_Off ?p6_Off ?p7_Off ?p8_Off ?p9_Off ?pk_Off ?na_Off ?x_PairError ?xk_PairError ?xs_PairError ?xt_PairError ?xd_PairError ?x_BadLast ?xk_BadLast ?xs_BadLast ?xt_BadLast ?xd_BadLast ?yg_BadLast ?yh_BadLast ?ya_BadLast ?yn_BadLast ?yt_BadLast ?ym_BadLast ?yp_BadLast ?kv_BadLast ?x_BadNumber ?xk_BadNumber ?xs_BadNumber ?xt_BadNumber ?xd_BadNumber ?yg_BadNumber ?yh_BadNumber ?ya_BadNumber ?yn_BadNumber ?yt_BadNumber ?ym_BadNumber ?yp_BadNumber ?kv_BadNumber ?x_BadPlace ?xk_BadPlace ?xs_BadPlace ?xt_BadPlace ?xd_BadPlace ?yg_BadPlace ?yh_BadPlace ?ya_BadPlace ?yn_BadPlace ?yt_BadPlace ?ym_BadPlace ?yp_BadPlace ?kv_BadPlace ?x_BadRow ?xk_BadRow ?xs_BadRow ?xt_BadRow ?xd_BadRow ?yg_BadRow ?yh_BadRow ?ya_BadRow ?yn_BadRow ?yt_BadRow ?ym_BadRow ?yp_BadRow ?kv_BadRow ?x_NoRow ?xk_NoRow ?xs_NoRow ?xt_NoRow ?xd_NoRow ?yg_NoRow ?yh_NoRow ?ya_NoRow ?yn_NoRow ?yt_NoRow ?ym_NoRow ?yp_NoRow ?kv_NoRow ?z_GREATEST ?z_FIRSTS ?l_FIRSTS ?l_F1 ?l_F4 ?l_F5 ?m_ValueError ?m_abs ?m_all ?m_any ?m_bool ?m_enumerate ?m_int ?m_isinstance ?m_len ?m_list ?m_min ?m_range ?m_sorted ?m_sum ?ke_BadLast_BadLast ?ke_BadLast_BadNumber ?ke_BadLast_BadPlace ?ke_BadLast_BadRow ?ke_BadLast_NoRow ?ke_BadNumber_BadLast ?ke_BadNumber_BadNumber ?ke_BadNumber_BadPlace ?ke_BadNumber_BadRow ?ke_BadNumber_NoRow ?ke_BadPlace_BadLast ?ke_BadPlace_BadNumber ?ke_BadPlace_BadPlace ?ke_BadPlace_BadRow ?ke_BadPlace_NoRow ?ke_BadRow_BadLast ?ke_BadRow_BadNumber ?ke_BadRow_BadPlace ?ke_BadRow_BadRow ?ke_BadRow_NoRow ?ke_NoRow_BadLast ?ke_NoRow_BadNumber ?ke_NoRow_BadPlace ?ke_NoRow_BadRow ?ke_NoRow_NoRow ?kit_Can_Answer ?kit_Can_Can ?kit_Can_Barred ?kit_Can_Good ?kit_Can_Off ?kit_Barred_Answer ?kit_Barred_Can ?kit_Barred_Barred ?kit_Barred_Good ?kit_Barred_Off ?kit_Good_Answer ?kit_Good_Can ?kit_Good_Barred ?kit_Good_Good ?kit_Good_Off ?kit_Off_Answer ?kit_Off_Can ?kit_Off_Barred ?kit_Off_Good ?kit_Off_Off
    (case z_Answer => k_is)
    (case z_Can => k_is)
    (case z_Barred => k_is)
    (case z_Good => k_is)
    (case z_Off => k_is)
    (case z_PairError => k_is)
    (case z_BadLast => k_is)
    (case z_BadNumber => k_is)
    (case z_BadPlace => k_is)
    (case z_BadRow => k_is)
    (case z_NoRow => k_is)
    (case a_Can_shows => k_is)
    (case i_Can_shows => k_is)
    (case l_Can_shows => k_is)
    (case c_Can_shows => k_is)
    (case k_Can_shows => k_is)
    (case a_Barred_shows => k_is)
    (case i_Barred_shows => k_is)
    (case l_Barred_shows => k_is)
    (case c_Barred_shows => k_is)
    (case k_Barred_shows => k_is)
    (case a_is_right => k_is)
    (case l_is_right => k_is)
    (case c_is_right => k_is)
    (case k_is_right => k_is)
    (case a_Good_shows => k_is)
    (case i_Good_shows => k_is)
    (case l_Good_shows => k_is)
    (case c_Good_shows => k_is)
    (case k_Good_shows => k_is)
    (case a_Off___init__ => k_is)
    (case i_Off___init__ => k_is)
    (case l_Off___init__ => k_is)
    (case c_Off___init__ => k_is)
    (case k_Off___init__ => k_is)
    (case a_Off_shows => k_is)
    (case i_Off_shows => k_is)
    (case l_Off_shows => k_is)
    (case c_Off_shows => k_is)
    (case k_Off_shows => k_is)
    (case a_is_number => k_is)
    (case l_is_number => k_is)
    (case c_is_number => k_is)
    (case k_is_number => k_is)
    (case a_asked_last => k_is)
    (case l_asked_last => k_is)
    (case c_asked_last => k_is)
    (case k_asked_last => k_is)
    (case a_can => k_is)
    (case l_can => k_is)
    (case c_can => k_is)
    (case k_can => k_is)
    (case a_asked_row => k_is)
    (case l_asked_row => k_is)
    (case c_asked_row => k_is)
    (case k_asked_row => k_is)
    (case a_first_by_fours => k_is)
    (case l_first_by_fours => k_is)
    (case c_first_by_fours => k_is)
    (case k_first_by_fours => k_is)
    (case a_first_by_ones => k_is)
    (case l_first_by_ones => k_is)
    (case c_first_by_ones => k_is)
    (case k_first_by_ones => k_is)
    (case a_first_of => k_is)
    (case l_first_of => k_is)
    (case c_first_of => k_is)
    (case k_first_of => k_is)
    (case a_both => k_is)
    (case l_both => k_is)
    (case c_both => k_is)
    (case k_both => k_is)
    (case a_places_of => k_is)
    (case l_places_of => k_is)
    (case c_places_of => k_is)
    (case k_places_of => k_is)
    (case a_at_place => k_is)
    (case l_at_place => k_is)
    (case c_at_place => k_is)
    (case k_at_place => k_is)
    (case a_number_at => k_is)
    (case l_number_at => k_is)
    (case c_number_at => k_is)
    (case k_number_at => k_is)
    (case a_row => k_is)
    (case l_row => k_is)
    (case c_row => k_is)
    (case k_row => k_is)
    (case a_three_by => k_is)
    (case l_three_by => k_is)
    (case c_three_by => k_is)
    (case k_three_by => k_is)
    (case a_three_of => k_is)
    (case l_three_of => k_is)
    (case c_three_of => k_is)
    (case k_three_of => k_is)
    (case a__law_number => k_is)
    (case l__law_number => k_is)
    (case c__law_number => k_is)
    (case k__law_number => k_is)
    (case a__law_last => k_is)
    (case l__law_last => k_is)
    (case c__law_last => k_is)
    (case k__law_last => k_is)
    (case a__law_whole => k_is)
    (case l__law_whole => k_is)
    (case c__law_whole => k_is)
    (case k__law_whole => k_is)
    (case a__law_can_right => k_is)
    (case l__law_can_right => k_is)
    (case c__law_can_right => k_is)
    (case k__law_can_right => k_is)
    (case a__law_none_right => k_is)
    (case l__law_none_right => k_is)
    (case c__law_none_right => k_is)
    (case k__law_none_right => k_is)
    (case a_law => k_is)
    (case l_law => k_is)
    (case c_law => k_is)
    (case k_law => k_is)
    (case p1_Can => k_is)
    (case p2_Can => k_is)
    (case p3_Can => k_is)
    (case p4_Can => k_is)
    (case p5_Can => k_is)
    (case p6_Can => k_is)
    (case p7_Can => k_is)
    (case p8_Can => k_is)
    (case p9_Can => k_is)
    (case pk_Can => k_is)
    (case ni_Can => k_is)
    (case p1_Barred => k_is)
    (case p2_Barred => k_is)
    (case p3_Barred => k_is)
    (case p4_Barred => k_is)
    (case p5_Barred => k_is)
    (case p6_Barred => k_is)
    (case p7_Barred => k_is)
    (case p8_Barred => k_is)
    (case p9_Barred => k_is)
    (case pk_Barred => k_is)
    (case ni_Barred => k_is)
    (case p1_Good => k_is)
    (case p2_Good => k_is)
    (case p3_Good => k_is)
    (case p4_Good => k_is)
    (case p5_Good => k_is)
    (case p6_Good => k_is)
    (case p7_Good => k_is)
    (case p8_Good => k_is)
    (case p9_Good => k_is)
    (case pk_Good => k_is)
    (case ni_Good => k_is)
    (case p1_Off => k_is)
    (case p2_Off => k_is)
    (case p3_Off => k_is)
    (case p4_Off => k_is)
    (case p5_Off => k_is)
    (case p6_Off => k_is)
    (case p7_Off => k_is)
    (case p8_Off => k_is)
    (case p9_Off => k_is)
    (case pk_Off => k_is)
    (case na_Off => k_is)
    (case x_PairError => k_exc)
    (case xk_PairError => k_is)
    (case xs_PairError => k_is)
    (case xt_PairError => k_is)
    (case xd_PairError => k_is)
    (case x_BadLast => k_exc)
    (case xk_BadLast => k_is)
    (case xs_BadLast => k_is)
    (case xt_BadLast => k_is)
    (case xd_BadLast => k_is)
    (case yg_BadLast => k_is)
    (case yh_BadLast => k_is)
    (case ya_BadLast => k_is)
    (case yn_BadLast => k_is)
    (case yt_BadLast => k_is)
    (case ym_BadLast => k_is)
    (case yp_BadLast => first | rfl | k_is)
    (case kv_BadLast => first | rfl | k_is)
    (case x_BadNumber => k_exc)
    (case xk_BadNumber => k_is)
    (case xs_BadNumber => k_is)
    (case xt_BadNumber => k_is)
    (case xd_BadNumber => k_is)
    (case yg_BadNumber => k_is)
    (case yh_BadNumber => k_is)
    (case ya_BadNumber => k_is)
    (case yn_BadNumber => k_is)
    (case yt_BadNumber => k_is)
    (case ym_BadNumber => k_is)
    (case yp_BadNumber => first | rfl | k_is)
    (case kv_BadNumber => first | rfl | k_is)
    (case x_BadPlace => k_exc)
    (case xk_BadPlace => k_is)
    (case xs_BadPlace => k_is)
    (case xt_BadPlace => k_is)
    (case xd_BadPlace => k_is)
    (case yg_BadPlace => k_is)
    (case yh_BadPlace => k_is)
    (case ya_BadPlace => k_is)
    (case yn_BadPlace => k_is)
    (case yt_BadPlace => k_is)
    (case ym_BadPlace => k_is)
    (case yp_BadPlace => first | rfl | k_is)
    (case kv_BadPlace => first | rfl | k_is)
    (case x_BadRow => k_exc)
    (case xk_BadRow => k_is)
    (case xs_BadRow => k_is)
    (case xt_BadRow => k_is)
    (case xd_BadRow => k_is)
    (case yg_BadRow => k_is)
    (case yh_BadRow => k_is)
    (case ya_BadRow => k_is)
    (case yn_BadRow => k_is)
    (case yt_BadRow => k_is)
    (case ym_BadRow => k_is)
    (case yp_BadRow => first | rfl | k_is)
    (case kv_BadRow => first | rfl | k_is)
    (case x_NoRow => k_exc)
    (case xk_NoRow => k_is)
    (case xs_NoRow => k_is)
    (case xt_NoRow => k_is)
    (case xd_NoRow => k_is)
    (case yg_NoRow => k_is)
    (case yh_NoRow => k_is)
    (case ya_NoRow => k_is)
    (case yn_NoRow => k_is)
    (case yt_NoRow => k_is)
    (case ym_NoRow => k_is)
    (case yp_NoRow => first | rfl | k_is)
    (case kv_NoRow => first | rfl | k_is)
    (case z_GREATEST => k_is)
    (case z_FIRSTS => k_is)
    (case l_FIRSTS => k_is)
    (case l_F1 => k_is)
    (case l_F4 => k_is)
    (case l_F5 => k_is)
    (case m_ValueError => k_is)
    (case m_abs => k_is)
    (case m_all => k_is)
    (case m_any => k_is)
    (case m_bool => k_is)
    (case m_enumerate => k_is)
    (case m_int => k_is)
    (case m_isinstance => k_is)
    (case m_len => k_is)
    (case m_list => k_is)
    (case m_min => k_is)
    (case m_range => k_is)
    (case m_sorted => k_is)
    (case m_sum => k_is)
    (case ke_BadLast_BadLast => first | rfl | k_is)
    (case ke_BadLast_BadNumber => first | rfl | k_is)
    (case ke_BadLast_BadPlace => first | rfl | k_is)
    (case ke_BadLast_BadRow => first | rfl | k_is)
    (case ke_BadLast_NoRow => first | rfl | k_is)
    (case ke_BadNumber_BadLast => first | rfl | k_is)
    (case ke_BadNumber_BadNumber => first | rfl | k_is)
    (case ke_BadNumber_BadPlace => first | rfl | k_is)
    (case ke_BadNumber_BadRow => first | rfl | k_is)
    (case ke_BadNumber_NoRow => first | rfl | k_is)
    (case ke_BadPlace_BadLast => first | rfl | k_is)
    (case ke_BadPlace_BadNumber => first | rfl | k_is)
    (case ke_BadPlace_BadPlace => first | rfl | k_is)
    (case ke_BadPlace_BadRow => first | rfl | k_is)
    (case ke_BadPlace_NoRow => first | rfl | k_is)
    (case ke_BadRow_BadLast => first | rfl | k_is)
    (case ke_BadRow_BadNumber => first | rfl | k_is)
    (case ke_BadRow_BadPlace => first | rfl | k_is)
    (case ke_BadRow_BadRow => first | rfl | k_is)
    (case ke_BadRow_NoRow => first | rfl | k_is)
    (case ke_NoRow_BadLast => first | rfl | k_is)
    (case ke_NoRow_BadNumber => first | rfl | k_is)
    (case ke_NoRow_BadPlace => first | rfl | k_is)
    (case ke_NoRow_BadRow => first | rfl | k_is)
    (case ke_NoRow_NoRow => first | rfl | k_is)
    (case kit_Can_Answer => first | rfl | k_is)
    (case kit_Can_Can => first | rfl | k_is)
    (case kit_Can_Barred => first | rfl | k_is)
    (case kit_Can_Good => first | rfl | k_is)
    (case kit_Can_Off => first | rfl | k_is)
    (case kit_Barred_Answer => first | rfl | k_is)
    (case kit_Barred_Can => first | rfl | k_is)
    (case kit_Barred_Barred => first | rfl | k_is)
    (case kit_Barred_Good => first | rfl | k_is)
    (case kit_Barred_Off => first | rfl | k_is)
    (case kit_Good_Answer => first | rfl | k_is)
    (case kit_Good_Can => first | rfl | k_is)
    (case kit_Good_Barred => first | rfl | k_is)
    (case kit_Good_Good => first | rfl | k_is)
    (case kit_Good_Off => first | rfl | k_is)
    (case kit_Off_Answer => first | rfl | k_is)
    (case kit_Off_Can => first | rfl | k_is)
    (case kit_Off_Barred => first | rfl | k_is)
    (case kit_Off_Good => first | rfl | k_is)
    (case kit_Off_Off => first | rfl | k_is)

