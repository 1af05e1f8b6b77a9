import PyProof.Rows.All
import Wide.All
import OpenK.AllK
import Wide.FinOn
import HandS.ForMost
import HandS.ForExc
import HandS.IsInst
import HandS.Evl
import HandS.WideBits
import HandS.SetFor
import HandS.EndBits
import HandS.TupLe
import HandS.SortInts
import HandS.Conv
import HandS.CallRecv
import HandS.Style
import KE.IntBitsLaws
import HandS.ExcIs
import HandS.ExcOwn
import HandS.Lambda
import HandS.ExcCtx
import HandS.Hot
import HandS.HotCalls
import HandS.Nested
import HandS.EndTab
import HandS.EndOwn
import HandS.TupSets
import KE.KSortTupG
import PyProof.SumWalk
import PyProof.ZipIter
import PySem.Challenge.RW_pairsapart_k07_whole_known
/-! the mathematics of the row: first places, both places, the number at a place -/
set_option maxHeartbeats 4000000
set_option Elab.async false
set_option linter.all false
namespace PA
def f4 (p n : Int) : Int :=
  if n % 2 = 0 then 6 * p - n / 2 else if n = 4 * p - 1 then 2 * p + 1 else if n = 1 then p else if n = 2 * p + 1 then p - 1 else if n = 2 * p - 1 then 2 * p
  else if 2 * p + 1 < n then (4 * p - 1 - n) / 2 else p + 1 + (2 * p - 1 - n) / 2
def f1 (p n : Int) : Int :=
  if n % 2 = 0 then 6 * p + 2 - n / 2 else if n = 4 * p + 1 then 2 * p + 1 else if n = 1 then p + 1 else if n = 2 * p - 1 then 2 * p + 2
  else if 2 * p < n then (4 * p + 1 - n) / 2 else p + 2 + (2 * p - 1 - n) / 2
def small (l : Int) : List Int := if l = 1 then [1] else if l = 4 then [1, 5, 3, 4] else if l = 5 then [8, 3, 1, 6, 2] else []
/-- the first place, from 0 on -/
def fst (l n : Int) : Int :=
  if l < 6 then (small l).getD (n - 1).toNat 0 - 1 else if l % 4 = 0 then f4 (l / 4) n - 1 else f1 (l / 4) n - 1
/-- a last number that can -/
def Can (l : Int) : Prop := 1 ≤ l ∧ l % 4 < 2
instance (l : Int) : Decidable (Can l) := inferInstanceAs (Decidable (_ ∧ _))
/-- n is a number of the row to l that stands at the place q -/
def At (l q n : Int) : Prop := (1 ≤ n ∧ n ≤ l) ∧ (q = fst l n ∨ q = fst l n + n)
instance (l q n : Int) : Decidable (At l q n) := inferInstanceAs (Decidable (_ ∧ _))
/-- the candidates at a place -/
def cand (l q : Int) : List Int :=
  [2 * (if q + 1 - (6 * (l / 4) + 2 * (l % 4)) < 0 then -(q + 1 - (6 * (l / 4) + 2 * (l % 4))) else q + 1 - (6 * (l / 4) + 2 * (l % 4))), 1, 2, 3, 4, 5, 2 * (l / 4) - 1, 2 * (l / 4) + 1, 4 * (l / 4) - 1, 4 * (l / 4) + 1,
    4 * (l / 4) + -1 - 2 * (q + 1), 2 * (q + 1) - 4 * (l / 4) - -1, 4 * (l / 4) + 1 - 2 * (q + 1), 2 * (q + 1) - 4 * (l / 4) - 1, 4 * (l / 4) + 3 - 2 * (q + 1), 2 * (q + 1) - 4 * (l / 4) - 3]
def R4 (p n a : Int) : Prop := ∃ k, (n = 2 * k ∧ a = 6 * p - k ∧ 1 ≤ k ∧ k ≤ 2 * p) ∨ (n = 4 * p - 1 ∧ a = 2 * p + 1) ∨ (n = 1 ∧ a = p) ∨ (n = 2 * p + 1 ∧ a = p - 1) ∨ (n = 2 * p - 1 ∧ a = 2 * p)
  ∨ (n = 4 * p - 1 - 2 * k ∧ a = k ∧ 1 ≤ k ∧ k ≤ p - 2) ∨ (n = 2 * p - 1 - 2 * k ∧ a = p + 1 + k ∧ 1 ≤ k ∧ k ≤ p - 2)
def R1 (p n a : Int) : Prop := ∃ k, (n = 2 * k ∧ a = 6 * p + 2 - k ∧ 1 ≤ k ∧ k ≤ 2 * p) ∨ (n = 4 * p + 1 ∧ a = 2 * p + 1) ∨ (n = 1 ∧ a = p + 1) ∨ (n = 2 * p - 1 ∧ a = 2 * p + 2)
  ∨ (n = 4 * p + 1 - 2 * k ∧ a = k ∧ 1 ≤ k ∧ k ≤ p) ∨ (n = 2 * p - 1 - 2 * k ∧ a = p + 2 + k ∧ 1 ≤ k ∧ k ≤ p - 2)
theorem f4_R {p n : Int} (hp : 2 ≤ p) (h1 : 1 ≤ n) (h2 : n ≤ 4 * p) : R4 p n (f4 p n) := by
  unfold f4
  by_cases a : n % 2 = 0
  · rw [if_pos a]; exact ⟨n / 2, .inl (by omega)⟩
  rw [if_neg a]
  by_cases b : n = 4 * p - 1
  · rw [if_pos b]; exact ⟨0, .inr (.inl ⟨b, rfl⟩)⟩
  rw [if_neg b]
  by_cases c : n = 1
  · rw [if_pos c]; exact ⟨0, .inr (.inr (.inl ⟨c, rfl⟩))⟩
  rw [if_neg c]
  by_cases d : n = 2 * p + 1
  · rw [if_pos d]; exact ⟨0, .inr (.inr (.inr (.inl ⟨d, rfl⟩)))⟩
  rw [if_neg d]
  by_cases e : n = 2 * p - 1
  · rw [if_pos e]; exact ⟨0, .inr (.inr (.inr (.inr (.inl ⟨e, rfl⟩))))⟩
  rw [if_neg e]
  by_cases f : 2 * p + 1 < n
  · rw [if_pos f]; exact ⟨(4 * p - 1 - n) / 2, .inr (.inr (.inr (.inr (.inr (.inl ⟨by omega, rfl, by omega, by omega⟩)))))⟩
  · rw [if_neg f]; exact ⟨(2 * p - 1 - n) / 2, .inr (.inr (.inr (.inr (.inr (.inr ⟨by omega, rfl, by omega, by omega⟩)))))⟩
theorem f1_R {p n : Int} (hp : 2 ≤ p) (h1 : 1 ≤ n) (h2 : n ≤ 4 * p + 1) : R1 p n (f1 p n) := by
  unfold f1
  by_cases a : n % 2 = 0
  · rw [if_pos a]; exact ⟨n / 2, .inl (by omega)⟩
  rw [if_neg a]
  by_cases b : n = 4 * p + 1
  · rw [if_pos b]; exact ⟨0, .inr (.inl ⟨b, rfl⟩)⟩
  rw [if_neg b]
  by_cases c : n = 1
  · rw [if_pos c]; exact ⟨0, .inr (.inr (.inl ⟨c, rfl⟩))⟩
  rw [if_neg c]
  by_cases e : n = 2 * p - 1
  · rw [if_pos e]; exact ⟨0, .inr (.inr (.inr (.inl ⟨e, rfl⟩)))⟩
  rw [if_neg e]
  by_cases f : 2 * p < n
  · rw [if_pos f]; exact ⟨(4 * p + 1 - n) / 2, .inr (.inr (.inr (.inr (.inl ⟨by omega, rfl, by omega, by omega⟩))))⟩
  · rw [if_neg f]; exact ⟨(2 * p - 1 - n) / 2, .inr (.inr (.inr (.inr (.inr ⟨by omega, rfl, by omega, by omega⟩))))⟩
theorem R4_fun {p n a b : Int} (hp : 2 ≤ p) (h : R4 p n a) (h' : R4 p n b) : a = b := by
  obtain ⟨k, h⟩ := h
  obtain ⟨j, h'⟩ := h'
  rcases h with h | h | h | h | h | h | h <;> rcases h' with z | z | z | z | z | z | z <;> omega
theorem R1_fun {p n a b : Int} (hp : 2 ≤ p) (h : R1 p n a) (h' : R1 p n b) : a = b := by
  obtain ⟨k, h⟩ := h
  obtain ⟨j, h'⟩ := h'
  rcases h with h | h | h | h | h | h <;> rcases h' with z | z | z | z | z | z <;> omega
theorem R4_rng {p n a : Int} (hp : 2 ≤ p) (h : R4 p n a) : 1 ≤ n ∧ n ≤ 4 * p ∧ 1 ≤ a ∧ a + n ≤ 8 * p := by
  obtain ⟨k, h⟩ := h
  rcases h with h | h | h | h | h | h | h <;> omega
theorem R1_rng {p n a : Int} (hp : 2 ≤ p) (h : R1 p n a) : 1 ≤ n ∧ n ≤ 4 * p + 1 ∧ 1 ≤ a ∧ a + n ≤ 8 * p + 2 := by
  obtain ⟨k, h⟩ := h
  rcases h with h | h | h | h | h | h <;> omega
theorem R4_uniq {p n a m b q : Int} (hp : 2 ≤ p) (h : R4 p n a) (h' : R4 p m b) (hq : q = a ∨ q = a + n) (hq' : q = b ∨ q = b + m) : n = m := by
  obtain ⟨k, h⟩ := h
  obtain ⟨j, h'⟩ := h'
  rcases h with h | h | h | h | h | h | h <;> rcases h' with z | z | z | z | z | z | z <;> rcases hq with x | x <;> rcases hq' with y | y <;> omega
theorem R1_uniq {p n a m b q : Int} (hp : 2 ≤ p) (h : R1 p n a) (h' : R1 p m b) (hq : q = a ∨ q = a + n) (hq' : q = b ∨ q = b + m) : n = m := by
  obtain ⟨k, h⟩ := h
  obtain ⟨j, h'⟩ := h'
  rcases h with h | h | h | h | h | h <;> rcases h' with z | z | z | z | z | z <;> rcases hq with x | x <;> rcases hq' with y | y <;> omega
theorem R4_ex {p q : Int} (hp : 2 ≤ p) (h1 : 1 ≤ q) (h2 : q ≤ 8 * p) : ∃ n a, R4 p n a ∧ (q = a ∨ q = a + n) := by
  by_cases c1 : q ≤ p - 2
  · exact ⟨4 * p - 1 - 2 * q, q, ⟨q, .inr (.inr (.inr (.inr (.inr (.inl ⟨rfl, rfl, h1, c1⟩)))))⟩, .inl rfl⟩
  by_cases c2 : q = p - 1
  · exact ⟨2 * p + 1, p - 1, ⟨0, .inr (.inr (.inr (.inl ⟨rfl, rfl⟩)))⟩, .inl c2⟩
  by_cases c3 : q = p
  · exact ⟨1, p, ⟨0, .inr (.inr (.inl ⟨rfl, rfl⟩))⟩, .inl c3⟩
  by_cases c4 : q = p + 1
  · exact ⟨1, p, ⟨0, .inr (.inr (.inl ⟨rfl, rfl⟩))⟩, .inr c4⟩
  by_cases c5 : q < 2 * p
  · exact ⟨2 * p - 1 - 2 * (q - p - 1), p + 1 + (q - p - 1), ⟨q - p - 1, .inr (.inr (.inr (.inr (.inr (.inr ⟨rfl, rfl, by omega, by omega⟩)))))⟩, .inl (by omega)⟩
  by_cases c6 : q = 2 * p
  · exact ⟨2 * p - 1, 2 * p, ⟨0, .inr (.inr (.inr (.inr (.inl ⟨rfl, rfl⟩))))⟩, .inl c6⟩
  by_cases c7 : q = 2 * p + 1
  · exact ⟨4 * p - 1, 2 * p + 1, ⟨0, .inr (.inl ⟨rfl, rfl⟩)⟩, .inl c7⟩
  by_cases c8 : q < 3 * p
  · exact ⟨2 * p - 1 - 2 * (3 * p - q), p + 1 + (3 * p - q), ⟨3 * p - q, .inr (.inr (.inr (.inr (.inr (.inr ⟨rfl, rfl, by omega, by omega⟩)))))⟩, .inr (by omega)⟩
  by_cases c9 : q = 3 * p
  · exact ⟨2 * p + 1, p - 1, ⟨0, .inr (.inr (.inr (.inl ⟨rfl, rfl⟩)))⟩, .inr (by omega)⟩
  by_cases c10 : q < 4 * p - 1
  · exact ⟨4 * p - 1 - 2 * (4 * p - 1 - q), 4 * p - 1 - q, ⟨4 * p - 1 - q, .inr (.inr (.inr (.inr (.inr (.inl ⟨rfl, rfl, by omega, by omega⟩)))))⟩, .inr (by omega)⟩
  by_cases c11 : q = 4 * p - 1
  · exact ⟨2 * p - 1, 2 * p, ⟨0, .inr (.inr (.inr (.inr (.inl ⟨rfl, rfl⟩))))⟩, .inr (by omega)⟩
  by_cases c12 : q < 6 * p
  · exact ⟨2 * (6 * p - q), 6 * p - (6 * p - q), ⟨6 * p - q, .inl ⟨rfl, rfl, by omega, by omega⟩⟩, .inl (by omega)⟩
  by_cases c13 : q = 6 * p
  · exact ⟨4 * p - 1, 2 * p + 1, ⟨0, .inr (.inl ⟨rfl, rfl⟩)⟩, .inr (by omega)⟩
  · exact ⟨2 * (q - 6 * p), 6 * p - (q - 6 * p), ⟨q - 6 * p, .inl ⟨rfl, rfl, by omega, by omega⟩⟩, .inr (by omega)⟩
theorem R1_ex {p q : Int} (hp : 2 ≤ p) (h1 : 1 ≤ q) (h2 : q ≤ 8 * p + 2) : ∃ n a, R1 p n a ∧ (q = a ∨ q = a + n) := by
  by_cases c1 : q ≤ p
  · exact ⟨4 * p + 1 - 2 * q, q, ⟨q, .inr (.inr (.inr (.inr (.inl ⟨rfl, rfl, h1, c1⟩))))⟩, .inl rfl⟩
  by_cases c3 : q = p + 1
  · exact ⟨1, p + 1, ⟨0, .inr (.inr (.inl ⟨rfl, rfl⟩))⟩, .inl c3⟩
  by_cases c4 : q = p + 2
  · exact ⟨1, p + 1, ⟨0, .inr (.inr (.inl ⟨rfl, rfl⟩))⟩, .inr (by omega)⟩
  by_cases c5 : q < 2 * p + 1
  · exact ⟨2 * p - 1 - 2 * (q - p - 2), p + 2 + (q - p - 2), ⟨q - p - 2, .inr (.inr (.inr (.inr (.inr ⟨rfl, rfl, by omega, by omega⟩))))⟩, .inl (by omega)⟩
  by_cases c6 : q = 2 * p + 1
  · exact ⟨4 * p + 1, 2 * p + 1, ⟨0, .inr (.inl ⟨rfl, rfl⟩)⟩, .inl c6⟩
  by_cases c7 : q = 2 * p + 2
  · exact ⟨2 * p - 1, 2 * p + 2, ⟨0, .inr (.inr (.inr (.inl ⟨rfl, rfl⟩)))⟩, .inl c7⟩
  by_cases c8 : q < 3 * p + 1
  · exact ⟨2 * p - 1 - 2 * (3 * p + 1 - q), p + 2 + (3 * p + 1 - q), ⟨3 * p + 1 - q, .inr (.inr (.inr (.inr (.inr ⟨rfl, rfl, by omega, by omega⟩))))⟩, .inr (by omega)⟩
  by_cases c9 : q < 4 * p + 1
  · exact ⟨4 * p + 1 - 2 * (4 * p + 1 - q), 4 * p + 1 - q, ⟨4 * p + 1 - q, .inr (.inr (.inr (.inr (.inl ⟨rfl, rfl, by omega, by omega⟩))))⟩, .inr (by omega)⟩
  by_cases c11 : q = 4 * p + 1
  · exact ⟨2 * p - 1, 2 * p + 2, ⟨0, .inr (.inr (.inr (.inl ⟨rfl, rfl⟩)))⟩, .inr (by omega)⟩
  by_cases c12 : q < 6 * p + 2
  · exact ⟨2 * (6 * p + 2 - q), 6 * p + 2 - (6 * p + 2 - q), ⟨6 * p + 2 - q, .inl ⟨rfl, rfl, by omega, by omega⟩⟩, .inl (by omega)⟩
  by_cases c13 : q = 6 * p + 2
  · exact ⟨4 * p + 1, 2 * p + 1, ⟨0, .inr (.inl ⟨rfl, rfl⟩)⟩, .inr (by omega)⟩
  · exact ⟨2 * (q - (6 * p + 2)), 6 * p + 2 - (q - (6 * p + 2)), ⟨q - (6 * p + 2), .inl ⟨rfl, rfl, by omega, by omega⟩⟩, .inr (by omega)⟩
theorem mem_ix {l : List Int} (i : Nat) {x n : Int} (h : l[i]? = some x) (e : x = n) : n ∈ l := by
  subst e
  exact List.mem_of_getElem? h
theorem R4_cand {p n a q : Int} (hp : 2 ≤ p) (h : R4 p n a) (hq : q + 1 = a ∨ q + 1 = a + n) : n ∈ cand (4 * p) q := by
  obtain ⟨k, h⟩ := h
  have e : 4 * p / 4 = p := by omega
  have e2 : 4 * p % 4 = 0 := by omega
  unfold cand
  rw [e, e2]
  rcases h with h | h | h | h | h | h | h
  · refine mem_ix 0 rfl ?_
    split <;> omega
  · exact mem_ix 8 rfl (by omega)
  · exact mem_ix 1 rfl (by omega)
  · exact mem_ix 7 rfl (by omega)
  · exact mem_ix 6 rfl (by omega)
  · rcases hq with x | x
    · exact mem_ix 10 rfl (by omega)
    · exact mem_ix 11 rfl (by omega)
  · rcases hq with x | x
    · exact mem_ix 12 rfl (by omega)
    · exact mem_ix 13 rfl (by omega)
theorem R1_cand {p n a q : Int} (hp : 2 ≤ p) (h : R1 p n a) (hq : q + 1 = a ∨ q + 1 = a + n) : n ∈ cand (4 * p + 1) q := by
  obtain ⟨k, h⟩ := h
  have e : (4 * p + 1) / 4 = p := by omega
  have e2 : (4 * p + 1) % 4 = 1 := by omega
  unfold cand
  rw [e, e2]
  rcases h with h | h | h | h | h | h
  · refine mem_ix 0 rfl ?_
    split <;> omega
  · exact mem_ix 9 rfl (by omega)
  · exact mem_ix 1 rfl (by omega)
  · exact mem_ix 6 rfl (by omega)
  · rcases hq with x | x
    · exact mem_ix 12 rfl (by omega)
    · exact mem_ix 13 rfl (by omega)
  · rcases hq with x | x
    · exact mem_ix 14 rfl (by omega)
    · exact mem_ix 15 rfl (by omega)
/-! the three kinds of last numbers -/
theorem can_cases {l : Int} (h : Can l) : l = 1 ∨ l = 4 ∨ l = 5 ∨ (∃ p, 2 ≤ p ∧ l = 4 * p) ∨ ∃ p, 2 ≤ p ∧ l = 4 * p + 1 := by
  obtain ⟨h1, h2⟩ := h
  by_cases a : l < 6
  · have : l = 1 ∨ l = 4 ∨ l = 5 := by omega
    rcases this with e | e | e
    · exact .inl e
    · exact .inr (.inl e)
    · exact .inr (.inr (.inl e))
  · by_cases b : l % 4 = 0
    · exact .inr (.inr (.inr (.inl ⟨l / 4, by omega, by omega⟩)))
    · exact .inr (.inr (.inr (.inr ⟨l / 4, by omega, by omega⟩)))
theorem fst4 {p : Int} (hp : 2 ≤ p) (n : Int) : fst (4 * p) n = f4 p n - 1 := by
  unfold fst
  rw [if_neg (by omega), if_pos (by omega), show 4 * p / 4 = p by omega]
theorem fst1 {p : Int} (hp : 2 ≤ p) (n : Int) : fst (4 * p + 1) n = f1 p n - 1 := by
  unfold fst
  rw [if_neg (by omega), if_neg (by omega), show (4 * p + 1) / 4 = p by omega]
/-- small numbers, one by one -/
theorem five {n l : Int} (h1 : 1 ≤ n) (h2 : n ≤ l) (hl : l ≤ 5) : n = 1 ∨ n = 2 ∨ n = 3 ∨ n = 4 ∨ n = 5 := by omega
def smallOk (l : Int) : Bool :=
  [1, 2, 3, 4, 5].all fun n => decide (l < n) || ((decide (0 ≤ fst l n) && decide (fst l n + n < 2 * l)) && decide (n ∈ cand l (fst l n)) && decide (n ∈ cand l (fst l n + n)) &&
    [1, 2, 3, 4, 5].all fun m => decide (l < m) || decide (n = m) || (decide (fst l n ≠ fst l m) && decide (fst l n ≠ fst l m + m) && decide (fst l n + n ≠ fst l m) && decide (fst l n + n ≠ fst l m + m)))
theorem small_all : smallOk 1 = true ∧ smallOk 4 = true ∧ smallOk 5 = true := by decide +kernel
theorem small_use {l n : Int} (h : smallOk l = true) (hl : l ≤ 5) (h1 : 1 ≤ n) (h2 : n ≤ l) : (0 ≤ fst l n ∧ fst l n + n < 2 * l) ∧ n ∈ cand l (fst l n) ∧ n ∈ cand l (fst l n + n) ∧
    ∀ m, 1 ≤ m → m ≤ l → n ≠ m → fst l n ≠ fst l m ∧ fst l n ≠ fst l m + m ∧ fst l n + n ≠ fst l m ∧ fst l n + n ≠ fst l m + m := by
  have mem : ∀ m : Int, 1 ≤ m → m ≤ l → m ∈ ([1, 2, 3, 4, 5] : List Int) := fun m a b => by
    rcases five a b hl with e | e | e | e | e <;> subst e <;> decide
  have q := List.all_eq_true.mp h n (mem n h1 h2)
  simp only [Bool.or_eq_true, Bool.and_eq_true, decide_eq_true_eq] at q
  rcases q with q | q
  · omega
  obtain ⟨⟨⟨q1, q2⟩, q3⟩, q4⟩ := q
  refine ⟨q1, q2, q3, fun m a b ne => ?_⟩
  have z := List.all_eq_true.mp q4 m (mem m a b)
  simp only [Bool.or_eq_true, Bool.and_eq_true, decide_eq_true_eq] at z
  rcases z with (z | z) | z
  · omega
  · exact absurd z ne
  · exact ⟨z.1.1.1, z.1.1.2, z.1.2, z.2⟩
def smallEx (l : Int) : Bool := [0, 1, 2, 3, 4, 5, 6, 7, 8, 9].all fun q => decide (2 * l ≤ q) || [1, 2, 3, 4, 5].any fun n => decide (At l q n)
theorem small_ex : smallEx 1 = true ∧ smallEx 4 = true ∧ smallEx 5 = true := by decide +kernel
/-! what is said of a row, for every last number that can -/
theorem fst_rng {l n : Int} (hl : Can l) (h1 : 1 ≤ n) (h2 : n ≤ l) : 0 ≤ fst l n ∧ fst l n + n < 2 * l := by
  rcases can_cases hl with e | e | e | ⟨p, hp, e⟩ | ⟨p, hp, e⟩
  · subst e; exact (small_use small_all.1 (by omega) h1 h2).1
  · subst e; exact (small_use small_all.2.1 (by omega) h1 h2).1
  · subst e; exact (small_use small_all.2.2 (by omega) h1 h2).1
  · subst e; rw [fst4 hp]; have := R4_rng hp (f4_R hp h1 h2); omega
  · subst e; rw [fst1 hp]; have := R1_rng hp (f1_R hp h1 h2); omega
theorem small_uniq {l q n m : Int} (h : smallOk l = true) (hl : l ≤ 5) (a : At l q n) (b : At l q m) : n = m := by
  obtain ⟨⟨a1, a2⟩, a3⟩ := a
  obtain ⟨⟨b1, b2⟩, b3⟩ := b
  by_cases e : n = m
  · exact e
  · have z := (small_use h hl a1 a2).2.2.2 m b1 b2 e
    omega
theorem at_uniq {l q n m : Int} (hl : Can l) (a : At l q n) (b : At l q m) : n = m := by
  rcases can_cases hl with e | e | e | ⟨p, hp, e⟩ | ⟨p, hp, e⟩
  · subst e; exact small_uniq small_all.1 (by omega) a b
  · subst e; exact small_uniq small_all.2.1 (by omega) a b
  · subst e; exact small_uniq small_all.2.2 (by omega) a b
  · subst e
    obtain ⟨⟨a1, a2⟩, a3⟩ := a
    obtain ⟨⟨b1, b2⟩, b3⟩ := b
    rw [fst4 hp] at a3 b3
    exact R4_uniq (q := q + 1) hp (f4_R hp a1 a2) (f4_R hp b1 b2) (by omega) (by omega)
  · subst e
    obtain ⟨⟨a1, a2⟩, a3⟩ := a
    obtain ⟨⟨b1, b2⟩, b3⟩ := b
    rw [fst1 hp] at a3 b3
    exact R1_uniq (q := q + 1) hp (f1_R hp a1 a2) (f1_R hp b1 b2) (by omega) (by omega)
theorem at_cand {l q n : Int} (hl : Can l) (a : At l q n) : n ∈ cand l q := by
  rcases can_cases hl with e | e | e | ⟨p, hp, e⟩ | ⟨p, hp, e⟩
  · subst e
    obtain ⟨⟨a1, a2⟩, a3 | a3⟩ := a <;> subst a3
    · exact (small_use small_all.1 (by omega) a1 a2).2.1
    · exact (small_use small_all.1 (by omega) a1 a2).2.2.1
  · subst e
    obtain ⟨⟨a1, a2⟩, a3 | a3⟩ := a <;> subst a3
    · exact (small_use small_all.2.1 (by omega) a1 a2).2.1
    · exact (small_use small_all.2.1 (by omega) a1 a2).2.2.1
  · subst e
    obtain ⟨⟨a1, a2⟩, a3 | a3⟩ := a <;> subst a3
    · exact (small_use small_all.2.2 (by omega) a1 a2).2.1
    · exact (small_use small_all.2.2 (by omega) a1 a2).2.2.1
  · subst e
    obtain ⟨⟨a1, a2⟩, a3⟩ := a
    rw [fst4 hp] at a3
    exact R4_cand hp (f4_R hp a1 a2) (by omega)
  · subst e
    obtain ⟨⟨a1, a2⟩, a3⟩ := a
    rw [fst1 hp] at a3
    exact R1_cand hp (f1_R hp a1 a2) (by omega)
theorem small_exu {l q : Int} (h : smallEx l = true) (hl : l ≤ 5) (h1 : 0 ≤ q) (h2 : q < 2 * l) : ∃ n, At l q n := by
  have m : q ∈ ([0, 1, 2, 3, 4, 5, 6, 7, 8, 9] : List Int) := by
    have : q = 0 ∨ q = 1 ∨ q = 2 ∨ q = 3 ∨ q = 4 ∨ q = 5 ∨ q = 6 ∨ q = 7 ∨ q = 8 ∨ q = 9 := by omega
    rcases this with e | e | e | e | e | e | e | e | e | e <;> subst e <;> decide
  have z := List.all_eq_true.mp h q m
  simp only [Bool.or_eq_true, decide_eq_true_eq] at z
  rcases z with z | z
  · omega
  · obtain ⟨n, _, e⟩ := List.any_eq_true.mp z
    exact ⟨n, of_decide_eq_true e⟩
theorem at_ex {l q : Int} (hl : Can l) (h1 : 0 ≤ q) (h2 : q < 2 * l) : ∃ n, At l q n := by
  rcases can_cases hl with e | e | e | ⟨p, hp, e⟩ | ⟨p, hp, e⟩
  · subst e; exact small_exu small_ex.1 (by omega) h1 h2
  · subst e; exact small_exu small_ex.2.1 (by omega) h1 h2
  · subst e; exact small_exu small_ex.2.2 (by omega) h1 h2
  · subst e
    obtain ⟨n, a, r, hq⟩ := R4_ex (q := q + 1) hp (by omega) (by omega)
    have g := R4_rng hp r
    have e := R4_fun hp r (f4_R hp g.1 g.2.1)
    refine ⟨n, ⟨g.1, g.2.1⟩, ?_⟩
    rw [fst4 hp]
    omega
  · subst e
    obtain ⟨n, a, r, hq⟩ := R1_ex (q := q + 1) hp (by omega) (by omega)
    have g := R1_rng hp r
    have e := R1_fun hp r (f1_R hp g.1 g.2.1)
    refine ⟨n, ⟨g.1, g.2.1⟩, ?_⟩
    rw [fst1 hp]
    omega
/-- the number at a place -/
def num (l q : Int) : Int := ((cand l q).filter fun n => decide (At l q n)).headD 0
theorem filt_at {l q n : Int} (hl : Can l) (a : At l q n) : ∃ r, (cand l q).filter (fun n => decide (At l q n)) = n :: r := by
  have m : n ∈ (cand l q).filter (fun n => decide (At l q n)) := List.mem_filter.mpr ⟨at_cand hl a, decide_eq_true a⟩
  cases e : (cand l q).filter (fun n => decide (At l q n)) with
  | nil => rw [e] at m; cases m
  | cons x r =>
    have x1 : x ∈ (cand l q).filter (fun n => decide (At l q n)) := by rw [e]; exact List.mem_cons_self
    have x2 := of_decide_eq_true (List.mem_filter.mp x1).2
    exact ⟨r, by rw [at_uniq hl x2 a]⟩
theorem num_at {l q n : Int} (hl : Can l) (a : At l q n) : num l q = n := by
  obtain ⟨r, e⟩ := filt_at hl a
  unfold num
  rw [e]
  rfl
theorem at_num {l q : Int} (hl : Can l) (h1 : 0 ≤ q) (h2 : q < 2 * l) : At l q (num l q) := by
  obtain ⟨n, a⟩ := at_ex hl h1 h2
  rw [num_at hl a]
  exact a
end PA

set_option Elab.async false
set_option linter.all false
set_option maxRecDepth 100000
set_option maxHeartbeats 4000000
namespace PA
open PySem PySem.Spec PyProof.Rows L2 Evl
/-! ### names of the built-ins -/
theorem bt_int : bootBuiltins "int" = some (.type "int") := by decide +kernel
theorem bt_bool : bootBuiltins "bool" = some (.type "bool") := by decide +kernel
theorem bt_list : bootBuiltins "list" = some (.type "list") := by decide +kernel
theorem bt_tuple : bootBuiltins "tuple" = some (.type "tuple") := by decide +kernel
theorem bt_str : bootBuiltins "str" = some (.type "str") := by decide +kernel
theorem bt_set : bootBuiltins "set" = some (.type "set") := by decide +kernel
theorem bt_ValueError : bootBuiltins "ValueError" = some (.type "ValueError") := by decide +kernel
theorem bt_len : bootBuiltins "len" = some (.builtin "len") := by decide +kernel
theorem bt_abs : bootBuiltins "abs" = some (.builtin "abs") := by decide +kernel
theorem bt_sum : bootBuiltins "sum" = some (.builtin "sum") := by decide +kernel
theorem bt_min : bootBuiltins "min" = some (.builtin "min") := by decide +kernel
theorem bt_isinstance : bootBuiltins "isinstance" = some (.builtin "isinstance") := by decide +kernel
theorem bt_sorted : bootBuiltins "sorted" = some (.builtin "sorted") := by decide +kernel
theorem bt_all : bootBuiltins "all" = some (.builtin "all") := by decide +kernel
theorem bt_any : bootBuiltins "any" = some (.builtin "any") := by decide +kernel
/-! ### an item of a written dict, by a whole number -/
def KInt (K : PySem.W.Frag) (d : Addr) (k : Int) (v : V) : Prop :=
  ∃ es n u, K.lookup d = some ⟨.type "dict", none, .dict es n, #[]⟩ ∧ (∀ e ∈ es, ∃ k t, e.key = .int k t ∧ e.hash = hashInt k) ∧ findBy Value.isInt es k = some u ∧ RelV v u
def rIxI (K : PySem.W.Frag) : R2 := fun x y H Q => ∃ p z v, x = .ref p ∧ y = .int z ∧ KInt K p z v ∧ Q v H
theorem ix_kint {X : Cx} : IxR X (rIxI X.K) := by
  intro value slice pins s σ H x y v u Q I rx ry h hs
  obtain ⟨p, z, r, rfl, rfl, ⟨es, n, u0, hl, hk, e, ru⟩, q⟩ := h
  obtain rfl : v = Value.ref p := rx
  obtain ⟨t, rfl⟩ := ry
  have hm : s.heap.MapOf (PySem.intKind X.prog X.w) p (fun k => findBy Value.isInt es k) := ⟨_, es, n, I.kIn _ _ hl, ⟨rfl, rfl, rfl⟩, rfl, fun e he => by
    obtain ⟨k, t, e1, e2⟩ := hk e he
    exact ⟨k, by rw [e1]; simp [PySem.intKind, Value.isInt], e2⟩, fun _ => rfl⟩
  exact tail_any hm.typeIs slot_dict_getitem.lookup (wpAny_getItem_of (by simp [PySem.intKind, Value.isInt]) hm e ⟨r, H, I.tok _, ru, q⟩) hs
theorem rv_kint {K : PySem.W.Frag} {H : Hp} {p : Addr} {z : Int} {v : V} (h : KInt K p z v) : RV (rIxI K) (.ref p) (.int z) H v := fun H1 _ _ q => ⟨p, z, v, rfl, rfl, h, q H1 (Ex.refl H1)⟩
/-! ### what a class of errors is -/
structure ExcT (K : PySem.W.Frag) (C : Addr) : Prop where
  ex : PySem.W.excIn K C [.type "ValueError", .type "Exception", .type "BaseException", .type "object"] "ValueError.__new__" = true
  kp : PySem.W.keepIn K (.ref C) = true
  sb : PySem.W.subIn K (.ref C) (.type "BaseException") = some true
  ty : PySem.W.typeIn K (.ref C) = some (.type "type")
/-! ### whole numbers -/
def isNumT (T : String) : Option Bool := match kitB T "int" with
  | some true => (kitB T "bool").map (!·)
  | some false => some false
  | none => none
theorem num_int : isNumT "int" = some true := by decide +kernel
theorem num_bool : isNumT "bool" = some false := by decide +kernel
theorem num_none : isNumT "NoneType" = some false := by decide +kernel
theorem num_str : isNumT "str" = some false := by decide +kernel
theorem num_list : isNumT "list" = some false := by decide +kernel
theorem num_tuple : isNumT "tuple" = some false := by decide +kernel
theorem num_dict : isNumT "dict" = some false := by decide +kernel
/-- whether a value is a whole number: b -/
def Num (K : PySem.W.Frag) (H : Hp) (v : V) (b : Bool) : Prop := ∃ T, TyX K H v (.type T) ∧ isNumT T = some b
theorem Num.int {K : PySem.W.Frag} {H : Hp} (n : Int) : Num K H (.int n) true := ⟨"int", .base (.int n), num_int⟩
theorem ex_ty {K : PySem.W.Frag} {H H' : Hp} {v : V} {t : Value} (e : Ex H H') (h : TyX K H v t) : TyX K H' v t := by
  cases h with
  | base b =>
    cases b with
    | non => exact .base .non
    | bl x => exact .base (.bl x)
    | int x => exact .base (.int x)
    | str x => exact .base (.str x)
    | flt x => exact .base (.flt x)
    | lst z => exact .base (.lst (e _ _ z))
    | frz z => exact .base (.frz (e _ _ z))
    | tup z => exact .base (.tup (e _ _ z))
    | dK z => exact .base (.dK (e _ _ z))
    | dT z => exact .base (.dT (e _ _ z))
    | ins z a b c d f => exact .base (.ins (e _ _ z) a b c d f)
  | byt b => exact .byt b
  | set z => exact .set (e _ _ z)
  | kList a b => exact .kList a b
  | kTuple a b => exact .kTuple a b
  | kDict a b => exact .kDict a b
  | fTuple z => exact .fTuple (e _ _ z)
  | fDict z => exact .fDict (e _ _ z)
theorem Num.ex {K : PySem.W.Frag} {H H' : Hp} {v : V} {b : Bool} (e : Ex H H') (h : Num K H v b) : Num K H' v b := by
  obtain ⟨T, t, n⟩ := h
  exact ⟨T, ex_ty e t, n⟩
/-! ### readings -/
section
variable {K : PySem.W.Frag} {σ : L2.St} {H H' : Hp} {ta tb te tx tc : TE} {t u : TT} {x y z v : V} {D : Ends} {tu tw tz : TS} {g : TG} {r r' : R2}
theorem ev_isi {c : V} {ty cu : Value} {b : Bool} (h : EvA (tCons ta (tCons tb tNil)) σ H [x, c]) (hc : ClsV c cu) (ht : TyX K H x ty) (hk : PySem.W.kitOne K ty cu = some b) : Ev (tCB (rIsi K) (tCons ta (tCons tb tNil))) σ H (.bl b) :=
  ev_cb h fun H1 e _ q => ⟨x, c, ty, cu, b, rfl, hc, ex_ty e ht, hk, q H1 (Ex.refl H1)⟩
theorem ev_abs {i : Int} (ha : Ev ta σ H (.int i)) : Ev (tCB (fun xs H Q => ∃ i, xs = [V.int i] ∧ Q (.int (if i < 0 then -i else i)) H) (tCons ta tNil)) σ H (.int (if i < 0 then -i else i)) :=
  ev_cb (ea_cons ha ea_nil) fun H1 _ _ q => ⟨i, rfl, q H1 (Ex.refl H1)⟩
theorem rv_mulL {i j : Int} (h : -(2 ^ 64) < i ∧ i < 2 ^ 64) : RV (rI CMul fun i j => .int (i * j)) (.int i) (.int j) H (.int (i * j)) := rv_I (.inl h)
theorem rv_mulR {i j : Int} (h : -(2 ^ 64) < j ∧ j < 2 ^ 64) : RV (rI CMul fun i j => .int (i * j)) (.int i) (.int j) H (.int (i * j)) := rv_I (.inr h)
theorem rv_div {i j : Int} (h : 0 < j ∧ j < 1073741824) : RV (rI CDiv fun i j => .int (i / j)) (.int i) (.int j) H (.int (i / j)) := rv_I h
theorem rv_mod {i j : Int} (h : 0 < j) : RV (rI (fun _ j => 0 < j) fun i j => .int (i % j)) (.int i) (.int j) H (.int (i % j)) := rv_I h
/-- a < b < c -/
theorem ev_chain {w : V} {k1 k2 : Bool} (ha : Ev ta σ H x) (hb : Ev tb σ H y) (hr : RV r x y H (.bl k1)) (hc : k1 = true → Ev tc σ H w) (hr' : k1 = true → RV r' y w H (.bl k2)) : Ev (tChain r r' ta tb tc) σ H (.bl (k1 && k2)) := fun H1 e Q q =>
  ha H1 e _ fun H2 e2 => hb H2 (e.trans e2) _ fun H3 e3 => hr H3 ((e.trans e2).trans e3) _ fun H4 e4 => ⟨k1, rfl, by
    have e14 := ((e.trans e2).trans e3).trans e4
    have e' := (e2.trans e3).trans e4
    cases k1 with
    | true =>
      rw [if_pos rfl]
      exact hc rfl H4 e14 _ fun H5 e5 => hr' rfl H5 (e14.trans e5) _ fun H6 e6 => q H6 ((e'.trans e5).trans e6)
    | false =>
      rw [if_neg Bool.false_ne_true]
      exact q H4 e'⟩
def SpU (sp : Sp) (vs : List V) (H : Hp) (xs : List V) : Prop := ∀ H1, Ex H H1 → ∀ Q : VK, (∀ p H2, H1 p = none → Ex H1 H2 → H2 p = some (.tup xs) → Q (.ref p) H2) → ∀ E : XK, sp vs H1 Q E
theorem eu_call {sp : Sp} {dvs vs xs : List V} {E : XK} {ta : TA} (h : EvA ta σ H vs) (hs : SpU sp (vs ++ dvs) H xs) : EvU (tCall sp dvs E ta) σ H xs := fun H1 e Q q =>
  h H1 e _ fun H2 e2 => hs H2 (e.trans e2) Q (fun p H3 hp e3 h3 => q p H3 (fresh_back e2 hp) (e2.trans e3) h3) E
def RetU (xs : List V) (H : Hp) (Q : VK) : Prop := ∀ p H2, H p = none → Ex H H2 → H2 p = some (.tup xs) → Q (.ref p) H2
theorem RetU.go {xs : List V} {Q : VK} (k : RetU xs H Q) (e : Ex H H') {p : Addr} {H2 : Hp} (hp : H' p = none) (e2 : Ex H' H2) (h : H2 p = some (.tup xs)) : Q (.ref p) H2 := k p H2 (fresh_back e hp) (e.trans e2) h
/-- a written dict of pairs: what it holds at a key -/
theorem ev_dget {d : Addr} {kvs : List (Key × V)} {n : Int} (h : H d = some (.dK kvs)) (hd : Ev ta σ H (.ref d)) (hk : Ev tb σ H (.int n)) (hv : valV kvs (Sum.inl n) = some v) : Ev (tDGet ta tb) σ H v := fun H1 e Q q =>
  hd H1 e _ fun H2 e2 => hk H2 (e.trans e2) _ fun H3 e3 => ⟨d, v, rfl, by
    have := DGet.k (k := Sum.inl n) (((e.trans e2).trans e3) _ _ h)
    rw [hv] at this
    exact this, q H3 (e2.trans e3)⟩
theorem et_din {d : Addr} {kvs : List (Key × V)} {n : Int} (h : H d = some (.dK kvs)) (hk : Ev ta σ H (.int n)) (hd : Ev tb σ H (.ref d)) : EvT (tB (tDIn ta tb)) σ H (valV kvs (Sum.inl n)).isSome := et_B fun H1 e Q q =>
  hk H1 e _ fun H2 e2 => hd H2 (e.trans e2) _ fun H3 e3 => ⟨d, _, rfl, DGet.k (k := Sum.inl n) (((e.trans e2).trans e3) _ _ h), q H3 (e2.trans e3)⟩
/-- a display of a dict -/
def EvPs (trs : List (TE × TE)) (σ : L2.St) (H : Hp) (ps : List (V × V)) : Prop := ∀ H1, Ex H H1 → ∀ Q : List (V × V) → Hp → Prop, (∀ H2, Ex H1 H2 → Q ps H2) → tPairs trs σ H1 Q
theorem ep_nil : EvPs [] σ H [] := fun H1 _ _ q => q H1 (Ex.refl H1)
theorem ep_cons {trs : List (TE × TE)} {ps : List (V × V)} (ha : Ev ta σ H x) (hb : Ev tb σ H y) (h : EvPs trs σ H ps) : EvPs ((ta, tb) :: trs) σ H ((x, y) :: ps) := fun H1 e _ q =>
  ha H1 e _ fun H2 e2 => hb H2 (e.trans e2) _ fun H3 e3 => h H3 ((e.trans e2).trans e3) _ fun H4 e4 => q H4 ((e2.trans e3).trans e4)
theorem q_asgD {i : Nat} {trs : List (TE × TE)} {kvs : List (Key × V)} (h : EvPs trs σ H (kvs.map fun kv => (kV kv.1, kv.2))) (hl : kvs.length ≤ 15) (k : ∀ p H1, H p = none → Ex H H1 → H1 p = some (.dK (mergeK [] kvs)) → tz D (σ.set i (some (.ref p))) H1) :
    tSeq (tAsg (tDisp trs) (gName i)) tz D σ H := fun p hp => h (upd H p (.dK [])) (Ex.new hp) _ fun H2 e2 =>
  ⟨e2 p _ upd_same, kvs, rfl, hl, k p _ hp (Ex.mut ((Ex.new hp).trans e2) hp) upd_same⟩
/-- a loop over a new tuple -/
theorem q_forNU {xs : List V} {tl : TE} {j : Nat} (h : EvU tl σ H xs) (Pv : Addr → Nat → L2.St → Hp → Prop) (h0 : ∀ p H1, H p = none → Ex H H1 → H1 p = some (.tup xs) → Pv p 0 σ H1) (hl : ∀ p i σ' H', i ≤ xs.length → Pv p i σ' H' → SqT K H' p xs)
    (hs : ∀ p i x σ' H', xs[i]? = some x → Pv p i σ' H' → tu { D with nx := Pv p (i + 1), ct := Pv p (i + 1), bk := tz D } (σ'.set j (some x)) H') (hd : ∀ p σ' H', Pv p xs.length σ' H' → tz D σ' H') : tSeq (tFor (iTup K tl) (gName j) tu) tz D σ H :=
  h H (Ex.refl H) _ fun p H1 hp e h1 => ⟨p, rfl, ⟨xs, st_of h1⟩, for_tup (Pv p) (h0 p H1 hp e h1) (hl p) (hs p) (hd p)⟩
/-- xs.extend(a new list) -/
theorem s_ext {l : Addr} {xs ys : List V} (hl : H l = some (.lst xs)) (ha : Ev ta σ H (.ref l)) (h : EvL te σ H ys) (hz : xs.length + ys.length ≤ 100000) (k : ∀ H1, Ex H H1 → D.nx σ (upd H1 l (.lst (xs ++ ys)))) :
    tDrop (tBM K "list" rExtend ta (tCons te tNil)) D σ H := ha H (Ex.refl H) _ fun H1 e1 =>
  ⟨Or.inl ⟨rfl, xs, sq_of (e1 l _ hl)⟩, h H1 e1 _ fun p H2 hp e2 h2 => ⟨l, p, xs, ys, rfl, rfl, e2 l _ (e1 l _ hl), h2, sz_of hz, k H2 (e1.trans e2)⟩⟩
theorem el_is {xs ys : List V} (h : EvL te σ H xs) (e : xs = ys) : EvL te σ H ys := by
  rw [← e]
  exact h
theorem eu_is {xs ys : List V} (h : EvU te σ H xs) (e : xs = ys) : EvU te σ H ys := by
  rw [← e]
  exact h
theorem et_yes : EvT tYes σ H true := fun H1 _ _ q => q H1 (Ex.refl H1)
end
/-! ### lists and comprehensions -/
theorem range_getD (xs : List Int) : (List.range xs.length).map (fun i => xs.getD i 0) = xs := by
  refine List.ext_getElem? fun i => ?_
  rw [List.getElem?_map]
  by_cases h : i < xs.length
  · rw [List.getElem?_eq_getElem (by rw [List.length_range]; exact h), List.getElem?_eq_getElem h, List.getElem_range]
    show some (xs.getD i 0) = _
    rw [List.getD_eq_getElem?_getD]
    simp [h]
  · rw [List.getElem?_eq_none (by rw [List.length_range]; omega), List.getElem?_eq_none (by omega)]
    rfl
theorem given_filter (p : Int → Bool) (xs : List Int) : given xs.length (fun i => p (xs.getD i 0)) (fun i => .int (xs.getD i 0)) = (xs.filter p).map V.int := by
  have e : xs.filter p = ((List.range xs.length).filter fun i => p (xs.getD i 0)).map fun i => xs.getD i 0 := by
    have := congrArg (List.filter p) (range_getD xs)
    rw [← this, List.filter_map]
    rfl
  rw [e, List.map_map]
  rfl
theorem given_all (v : Nat → V) (n : Nat) : given n (fun _ => true) v = (List.range n).map v := by
  unfold given
  rw [List.filter_eq_self.mpr (fun _ _ => rfl)]
theorem getD_of {xs : List Int} {i : Nat} {x : V} (h : (xs.map V.int)[i]? = some x) : x = .int (xs.getD i 0) := by
  rw [List.getElem?_map] at h
  cases e : xs[i]? with
  | none => rw [e] at h; cases h
  | some n =>
    rw [e] at h
    have h2 : V.int n = x := Option.some.inj h
    rw [← h2, List.getD_eq_getElem?_getD, e]
    rfl
theorem lt_of {α : Type} {xs : List α} {i : Nat} {x : α} (h : xs[i]? = some x) : i < xs.length := (List.getElem?_eq_some_iff.mp h).1
theorem inV_pair (q a b : Int) : inV (.int q) [.int a, .int b] = decide (q = a ∨ q = b) := by
  show ((a == q) || ((b == q) || false)) = _
  by_cases h1 : a = q
  · subst h1
    simp
  · by_cases h2 : b = q
    · subst h2
      simp
    · have h3 : ¬ (q = a ∨ q = b) := by omega
      rw [decide_eq_false h3]
      simp [h1, h2]
end PA

set_option Elab.async false
set_option linter.all false
set_option maxRecDepth 100000
set_option maxHeartbeats 4000000
namespace PA
open PySem PySem.Spec PyProof.Rows L2 Evl
/-! ### lists and tuples of whole numbers, compared -/
theorem eqvAll_ints : ∀ ns ms : List Int, PyData.eqvAll (ns.map PyData.int) (ms.map PyData.int) = decide (ns = ms)
  | [], [] => by simp [PyData.eqvAll]
  | [], _ :: _ => by simp [PyData.eqvAll]
  | _ :: _, [] => by simp [PyData.eqvAll]
  | n :: ns, m :: ms => by
    rw [List.map_cons, List.map_cons]
    show (PyData.eqv (.int n) (.int m) && PyData.eqvAll _ _) = _
    rw [eqvAll_ints ns ms]
    show ((n == m) && decide (ns = ms)) = _
    by_cases h : n = m
    · subst h
      simp
    · simp [h]
theorem eqv_ints (ns ms : List Int) : PyData.eqv (.list (ns.map PyData.int)) (.list (ms.map PyData.int)) = decide (ns = ms) := eqvAll_ints ns ms
theorem eqv_intsT (ns ms : List Int) : PyData.eqv (.tuple (ns.map PyData.int)) (.tuple (ms.map PyData.int)) = decide (ns = ms) := eqvAll_ints ns ms
theorem canAll_ints : ∀ ns : List Int, PyData.canLayAll0 (ns.map PyData.int) = true
  | [] => rfl
  | _ :: r => by
    rw [List.map_cons]
    show (PyData.canLay0 (.int _) && PyData.canLayAll0 _) = true
    rw [canAll_ints r]
    rfl
theorem depAll_ints : ∀ ns : List Int, PyData.depthAll (ns.map PyData.int) = 0
  | [] => rfl
  | _ :: r => by
    rw [List.map_cons]
    show max (PyData.depth (.int _)) (PyData.depthAll _) = 0
    rw [depAll_ints r]
    rfl
theorem shp_ints (ns : List Int) : SeqAt.shaped (.list (ns.map PyData.int)) = true := by
  show (PyData.canLayAll0 _ && decide (PyData.depthAll _ + 1 ≤ 64)) = true
  rw [canAll_ints, depAll_ints]
  rfl
theorem shp_intsT (ns : List Int) : SeqAt.shaped (.tuple (ns.map PyData.int)) = true := by
  show (PyData.canLayAll0 _ && decide (PyData.depthAll _ + 1 ≤ 64)) = true
  rw [canAll_ints, depAll_ints]
  rfl
theorem dpAll_ints {K : PySem.W.Frag} {H : Hp} : ∀ ns : List Int, DpAll K H (ns.map V.int) (ns.map PyData.int)
  | [] => .nil
  | n :: r => .cons (.int n) (dpAll_ints r)
section
variable {K : PySem.W.Frag} {σ : L2.St} {H H' : Hp} {ta tb te tx tc : TE} {t u : TT} {x y z v : V} {D : Ends} {tu tw tz : TS} {g : TG} {r r' : R2}
theorem rv_eqL {a b : Addr} {ns ms : List Int} (ha : SqL K H a (ns.map V.int)) (hb : SqL K H b (ms.map V.int)) : RV (rEqD K) (.ref a) (.ref b) H (.bl (decide (ns = ms))) := fun H1 e Q q =>
  ⟨_, _, .lst (ex_l e ha) (dpAll_ints ns), .lst (ex_l e hb) (dpAll_ints ms), shp_ints _, shp_ints _, by rw [eqv_ints]; exact q H1 (Ex.refl H1)⟩
theorem rv_neL {a b : Addr} {ns ms : List Int} (ha : SqL K H a (ns.map V.int)) (hb : SqL K H b (ms.map V.int)) : RV (rNeD K) (.ref a) (.ref b) H (.bl (!decide (ns = ms))) := fun H1 e Q q =>
  ⟨_, _, .lst (ex_l e ha) (dpAll_ints ns), .lst (ex_l e hb) (dpAll_ints ms), shp_ints _, shp_ints _, by rw [eqv_ints]; exact q H1 (Ex.refl H1)⟩
theorem rv_eqT {a b : Addr} {ns ms : List Int} (ha : SqT K H a (ns.map V.int)) (hb : SqT K H b (ms.map V.int)) : RV (rEqD K) (.ref a) (.ref b) H (.bl (decide (ns = ms))) := fun H1 e Q q =>
  ⟨_, _, .tup (ex_t e ha) (dpAll_ints ns), .tup (ex_t e hb) (dpAll_ints ms), shp_intsT _, shp_intsT _, by rw [eqv_intsT]; exact q H1 (Ex.refl H1)⟩
theorem rv_neT {a b : Addr} {ns ms : List Int} (ha : SqT K H a (ns.map V.int)) (hb : SqT K H b (ms.map V.int)) : RV (rNeD K) (.ref a) (.ref b) H (.bl (!decide (ns = ms))) := fun H1 e Q q =>
  ⟨_, _, .tup (ex_t e ha) (dpAll_ints ns), .tup (ex_t e hb) (dpAll_ints ms), shp_intsT _, shp_intsT _, by rw [eqv_intsT]; exact q H1 (Ex.refl H1)⟩
/-! ### readings with new lists and tuples -/
theorem ev_opU1 {xs : List V} (ha : EvU ta σ H xs) (hb : ∀ H1, Ex H H1 → Ev tb σ H1 y) (hr : ∀ p H1, H1 p = some (.tup xs) → Ex H H1 → RV r (.ref p) y H1 z) : Ev (tOp r ta tb) σ H z := fun H1 e Q q =>
  ha H1 e _ fun p H2 _ e2 h2 => hb H2 (e.trans e2) H2 (Ex.refl H2) _ fun H3 e3 => hr p H3 (e3 _ _ h2) ((e.trans e2).trans e3) H3 (Ex.refl H3) _ fun H4 e4 => q H4 ((e2.trans e3).trans e4)
theorem el_if {b : Bool} {xs : List V} (h : EvT t σ H b) (h1 : b = true → EvL ta σ H xs) (h2 : b = false → EvL tb σ H xs) : EvL (tIf t ta tb) σ H xs := fun H1 e Q q => h H1 e _ fun H2 e2 => by
  have k : ∀ te, EvL te σ H xs → te σ H2 Q := fun te ht => ht H2 (e.trans e2) _ fun p H3 hp e3 h3 => q p H3 (fresh_back e2 hp) (e2.trans e3) h3
  cases b with
  | true => exact k _ (h1 rfl)
  | false => exact k _ (h2 rfl)
/-- xs + ys, both tracked -/
theorem el_cat {xs ys : List V} (ha : ∀ H1, Ex H H1 → ∀ Q : VK, (∀ p H2, Ex H1 H2 → H2 p = some (.lst xs) → Q (.ref p) H2) → ta σ H1 Q) (hb : ∀ H1, Ex H H1 → ∀ Q : VK, (∀ p H2, Ex H1 H2 → H2 p = some (.lst ys) → Q (.ref p) H2) → tb σ H1 Q) (hz : xs.length + ys.length ≤ 100000) :
    EvL (tOp rCat ta tb) σ H (xs ++ ys) := fun H1 e Q q => ha H1 e _ fun p H2 e2 h2 => hb H2 (e.trans e2) _ fun p3 H3 e3 h3 =>
  ⟨p, p3, xs, ys, rfl, rfl, e3 _ _ h2, h3, sz_of hz, fun p4 h4 => q p4 _ (fresh_back (e2.trans e3) h4) ((e2.trans e3).trans (Ex.new h4)) upd_same⟩
/-- a tracked list, new or not -/
theorem at_new {xs : List V} (h : EvL te σ H xs) : ∀ H1, Ex H H1 → ∀ Q : VK, (∀ p H2, Ex H1 H2 → H2 p = some (.lst xs) → Q (.ref p) H2) → te σ H1 Q := fun H1 e Q q => h H1 e Q fun p H2 _ e2 h2 => q p H2 e2 h2
theorem at_old {a : Addr} {xs : List V} (h : Ev te σ H (.ref a)) (ha : H a = some (.lst xs)) : ∀ H1, Ex H H1 → ∀ Q : VK, (∀ p H2, Ex H1 H2 → H2 p = some (.lst xs) → Q (.ref p) H2) → te σ H1 Q := fun H1 e Q q => h H1 e Q fun H2 e2 => q a H2 e2 (e2 _ _ (e _ _ ha))
theorem el_rep {xs : List V} {k : Int} (ha : EvL ta σ H xs) (hb : Ev tb σ H (.int k)) (h0 : 0 ≤ k) (hk : k ≤ 100000) (hz : xs.length * k.toNat ≤ 100000) : EvL (tOp rRep ta tb) σ H (List.replicate k.toNat xs).flatten := fun H1 e Q q =>
  ha H1 e _ fun p H2 hp e2 h2 => hb H2 (e.trans e2) _ fun H3 e3 => ⟨p, k, xs, rfl, rfl, e3 _ _ h2, by omega, by omega, sz_of hz, fun p4 h4 => q p4 _ (fresh_back (e2.trans e3) h4) ((e2.trans e3).trans (Ex.new h4)) upd_same⟩
theorem ev_sum {a : Addr} {ns : List Int} (h : Ev ta σ H (.ref a)) (hs : SqL K H a (ns.map V.int)) : Ev (tCB (rSum K) (tCons ta tNil)) σ H (.int ns.sum) := ev_cb (ea_cons h ea_nil) fun H1 e _ q => ⟨a, ns, rfl, ex_l e hs, q H1 (Ex.refl H1)⟩
theorem ev_cbL {xs : List V} {rr : List V → Hp → VK → Prop} (h : EvL ta σ H xs) (hr : ∀ p H1, H1 p = some (.lst xs) → Ex H H1 → RC rr [.ref p] H1 z) : Ev (tCB rr (tCons ta tNil)) σ H z := fun H1 e Q q =>
  h H1 e _ fun p H2 _ e2 h2 => hr p H2 h2 (e.trans e2) H2 (Ex.refl H2) _ fun H3 e3 => q H3 (e2.trans e3)
theorem ev_cbU {xs : List V} {rr : List V → Hp → VK → Prop} (h : EvU ta σ H xs) (hr : ∀ p H1, H1 p = some (.tup xs) → Ex H H1 → RC rr [.ref p] H1 z) : Ev (tCB rr (tCons ta tNil)) σ H z := fun H1 e Q q =>
  h H1 e _ fun p H2 _ e2 h2 => hr p H2 h2 (e.trans e2) H2 (Ex.refl H2) _ fun H3 e3 => q H3 (e2.trans e3)
theorem rc_sum {a : Addr} {ns : List Int} (hs : SqL K H a (ns.map V.int)) : RC (rSum K) [.ref a] H (.int ns.sum) := fun H1 e _ q => ⟨a, ns, rfl, ex_l e hs, q H1 (Ex.refl H1)⟩
theorem ev_lenT {a : Addr} {xs : List V} (h : Ev ta σ H (.ref a)) (hs : SqT K H a xs) : Ev (tCB (rLenS K) (tCons ta tNil)) σ H (.int (xs.length : Int)) := ev_cb (ea_cons h ea_nil) fun H1 e _ q => ⟨a, xs, rfl, .inr (ex_t e hs), q H1 (Ex.refl H1)⟩
theorem ev_min2 {i j : Int} (ha : Ev ta σ H (.int i)) (hb : Ev tb σ H (.int j)) : Ev (tCB (fun xs H Q => ∃ i j, xs = [V.int i, V.int j] ∧ Q (.int (if j < i then j else i)) H) (tCons ta (tCons tb tNil))) σ H (.int (if j < i then j else i)) :=
  ev_cb (ea_cons ha (ea_cons hb ea_nil)) fun H1 _ _ q => ⟨i, j, rfl, q H1 (Ex.refl H1)⟩
theorem rv_pow {i j : Int} (h : 0 ≤ j ∧ j ≤ 1000000 ∧ i.natAbs < 2 ^ 64) : RV (rI CPow fun i j => .int (i ^ j.toNat)) (.int i) (.int j) H (.int (i ^ j.toNat)) := rv_I h
theorem rv_mulX {i j : Int} {m n : Nat} (hi : Builtin.Int.intBits i ≤ m) (hj : Builtin.Int.intBits j ≤ n) (h : m + n ≤ 134217728) : RV (rI CMulX fun i j => .int (i * j)) (.int i) (.int j) H (.int (i * j)) := rv_I (by
  show (Builtin.Int.intBits i : Int) + (Builtin.Int.intBits j : Int) ≤ 134217728
  omega)
theorem ev_ifV {b : Bool} {v w : V} (h : EvT t σ H b) (h1 : b = true → Ev ta σ H v) (h2 : b = false → Ev tb σ H w) : Ev (tIf t ta tb) σ H (if b = true then v else w) := ev_if h (fun hb => by subst hb; exact h1 rfl) (fun hb => by subst hb; exact h2 rfl)
/-! ### a range with a step upwards -/
theorem rng_up {hi c : Int} (h0 : 0 ≤ hi) (h1 : hi ≤ 1000) (hc : 0 < c) (hc2 : c ≤ 1000) : ∃ n : Nat, RgC 0 hi c n ∧ ∀ i : Nat, i < n → (i : Int) * c < hi := by
  refine ⟨(Builtin.Range.rangeSize 0 hi c).toNat, ⟨by omega, by omega, ?_, ?_⟩, fun i hi' => ?_⟩
  · unfold Builtin.Range.small Builtin.Range.rangeSize
    simp only [Builtin.Range.rangeFitsLong, Bool.and_eq_true, Bool.or_eq_true, decide_eq_true_eq, beq_iff_eq, gt_iff_lt, if_pos hc]
    by_cases z : 0 < hi
    · have q0 : 0 ≤ (hi - 0 - 1) / c := Int.ediv_nonneg (by omega) (by omega)
      have q1 : (hi - 0 - 1) / c ≤ hi - 0 - 1 := Int.ediv_le_self _ (by omega)
      rw [if_pos z]
      omega
    · rw [if_neg z]
      omega
  · unfold Builtin.Range.rangeSize
    rw [if_pos hc]
    split
    · have : 0 ≤ (hi - 0 - 1) / c := Int.ediv_nonneg (by omega) (by omega)
      omega
    · rfl
  · unfold Builtin.Range.rangeSize at hi'
    rw [if_pos hc] at hi'
    split at hi'
    · have q0 : 0 ≤ (hi - 0 - 1) / c := Int.ediv_nonneg (by omega) (by omega)
      have q1 : (i : Int) ≤ (hi - 0 - 1) / c := by omega
      have q2 : (hi - 0 - 1) / c * c ≤ hi - 0 - 1 := Int.ediv_mul_le _ (by omega)
      have q3 : (i : Int) * c ≤ (hi - 0 - 1) / c * c := Int.mul_le_mul_of_nonneg_right q1 (by omega)
      omega
    · simp at hi'
theorem q_forR3 {ta : TA} {j : Nat} {hi c : Int} (h : EvA ta σ H [.int 0, .int hi, .int c]) (h0 : 0 ≤ hi) (h1 : hi ≤ 1000) (hc : 0 < c) (hc2 : c ≤ 1000) (Pv : L2.St → Hp → Prop) (hp : ∀ H1, Ex H H1 → Pv σ H1)
    (hs : ∀ (k : Int) σ' H', 0 ≤ k → k < hi → Pv σ' H' → tu { D with nx := Pv, ct := Pv, bk := tz D } (σ'.set j (some (.int k))) H') (hd : ∀ σ' H', Pv σ' H' → tz D σ' H') : tSeq (tFor (iRng3 ta) (gName j) tu) tz D σ H := by
  obtain ⟨n, hn, hk⟩ := rng_up h0 h1 hc hc2
  refine h H (Ex.refl H) _ fun H1 e => ⟨0, hi, c, n, rfl, hn, for_rangeC (lo := 0) (c := c) (n := n) (D := { D with nx := tz D }) (fun _ => Pv) (hp H1 e) (fun i σ' H' hi' p => ?_) hd⟩
  have := hk i hi'
  exact hs (0 + (i : Int) * c) σ' H' (by have := Int.mul_nonneg (show (0 : Int) ≤ (i : Int) by omega) (show (0 : Int) ≤ c by omega); omega) (by omega) p
end
/-! ### tables -/
def tabl (n : Nat) (f : Nat → Int) : List Int := (List.range n).map f
theorem tabl_len (n : Nat) (f : Nat → Int) : (tabl n f).length = n := by
  unfold tabl
  rw [List.length_map, List.length_range]
theorem tabl_get {n j : Nat} (f : Nat → Int) (h : j < n) : (tabl n f)[j]? = some (f j) := by
  unfold tabl
  rw [List.getElem?_map, List.getElem?_eq_getElem (by rw [List.length_range]; exact h), List.getElem_range]
  rfl
theorem tabl_congr {n : Nat} {f g : Nat → Int} (h : ∀ i, i < n → f i = g i) : tabl n f = tabl n g := by
  unfold tabl
  exact List.map_congr_left fun i hi => h i (List.mem_range.mp hi)
theorem tabl_set {n j : Nat} (f : Nat → Int) (v : Int) : (tabl n f).set j v = tabl n (fun i => if i = j then v else f i) := by
  refine List.ext_getElem? fun i => ?_
  by_cases h : i < n
  · rw [tabl_get _ h]
    by_cases e : i = j
    · subst e
      rw [if_pos rfl, List.getElem?_set_self (by rw [tabl_len]; exact h)]
    · rw [if_neg e, List.getElem?_set_ne (fun z => e z.symm), tabl_get _ h]
  · rw [List.getElem?_eq_none (by rw [List.length_set, tabl_len]; omega), List.getElem?_eq_none (by rw [tabl_len]; omega)]
theorem tabl_const (n : Nat) (c : Int) : tabl n (fun _ => c) = List.replicate n c := by
  unfold tabl
  refine List.ext_getElem? fun i => ?_
  by_cases h : i < n
  · rw [List.getElem?_map, List.getElem?_eq_getElem (by rw [List.length_range]; exact h), List.getElem?_replicate, if_pos h]
    rfl
  · rw [List.getElem?_eq_none (by rw [List.length_map, List.length_range]; omega), List.getElem?_replicate, if_neg h]
theorem rep_flat (n : Nat) (c : Int) : (List.replicate n [V.int c]).flatten = (List.replicate n c).map V.int := by
  induction n with
  | zero => rfl
  | succ n ih =>
    rw [List.replicate_succ, List.flatten_cons, ih, List.replicate_succ, List.map_cons]
    rfl
theorem atI_int {ns : List Int} {i : Int} (h0 : 0 ≤ i) (h1 : i < ns.length) : atI (ns.map V.int) i = some (.int (ns.getD i.toNat 0)) := by
  refine at_of (j := i.toNat) (by omega) ?_
  have hl : i.toNat < ns.length := by omega
  rw [List.getElem?_map, List.getElem?_eq_getElem hl, List.getD_eq_getElem?_getD, List.getElem?_eq_getElem hl]
  rfl
theorem cut_all {xs : List V} (h : xs.length ≤ 63) : cutV xs none (some 63) = xs := by
  unfold cutV
  rw [HT.sIx_none, show HT.sIx xs.length xs.length (some 63) = min 63 xs.length from HT.sIx_nat xs.length xs.length 63]
  rw [Nat.min_eq_right h]
  show List.take (xs.length - 0) (xs.drop 0) = xs
  rw [Nat.sub_zero, List.drop_zero]
  exact List.take_length
end PA

set_option Elab.async false
set_option linter.all false
set_option maxRecDepth 100000
set_option maxHeartbeats 4000000
namespace PA
open PySem PySem.Spec PyProof.Rows L2 Evl
/-! ### comparisons in a chain of any length, as a test -/
structure PCh (X : Cx) (ops : List CmpOp) (es : List Expr) (t : V → TT) : Prop where
  run : ∀ (pos : Pos) (pins : List (Addr × Obj)) (s : Shared) (σ : L2.St) (H : Hp) (x : V) (v : Value) (Q : Bool → Hp → Prop), Inv X pins σ H s → RelV x v → t x σ H Q → wpAny (model X.prog X.w) X.A (testChain pos v ops (evalEach es X.env)) (TP X pins σ Q) X.xe s
def tLast (r : R2) (tb : TE) : V → TT := fun x σ H Q => tb σ H fun y H1 => r x y H1 fun z H2 => ∃ k, z = .bl k ∧ Q k H2
def tLink (r : R2) (tb : TE) (t : V → TT) : V → TT := fun x σ H Q => tb σ H fun y H1 => r x y H1 fun z H2 => ∃ k, z = .bl k ∧ if k = true then t y σ H2 Q else Q false H2
theorem pch_last {X : Cx} {op : CmpOp} {r : R2} {b : Expr} {tb : TE} (ho : OpR X (compareOp op) r) (hb : PE X b tb) : PCh X [op] [b] (tLast r tb) := by
  refine ⟨fun pos pins s σ H x v Q I rx h => ?_⟩
  refine test_last (thn (hb.run pins s σ H _ I h) fun u s1 ⟨y, H1, I1, r1, q1⟩ => thn (ho pins s1 σ H1 x y v u _ I1 rx r1 q1) fun d s2 ⟨z, H2, I2, r2, k, e, q2⟩ => ?_)
  subst e
  cases r2
  exact wpAny_truthy_bool ⟨H2, I2, q2⟩
theorem pch_link {X : Cx} {op op' : CmpOp} {ops : List CmpOp} {r : R2} {b b' : Expr} {bs : List Expr} {tb : TE} {t : V → TT} (ho : OpR X (compareOp op) r) (hb : PE X b tb) (h : PCh X (op' :: ops) (b' :: bs) t) : PCh X (op :: op' :: ops) (b :: b' :: bs) (tLink r tb t) := by
  refine ⟨fun pos pins s σ H x v Q I rx hw => ?_⟩
  refine test_link (r' := eval b' X.env) (rs := evalEach bs X.env) (thn (hb.run pins s σ H _ I hw) fun u s1 ⟨y, H1, I1, r1, q1⟩ => thn (ho pins s1 σ H1 x y v u _ I1 rx r1 q1) fun d s2 ⟨z, H2, I2, r2, k, e, q2⟩ => ?_)
  subst e
  cases r2
  refine wpAny_truthy_bool ?_
  cases k with
  | false => exact ite_ff ⟨H2, I2, q2⟩
  | true => exact ite_tt (h.run pos pins s2 σ H2 y u Q I2 r1 q2)
theorem pt_chainN {X : Cx} {a : Expr} {ta : TE} {op op' : CmpOp} {ops : List CmpOp} {b b' : Expr} {bs : List Expr} {t : V → TT} {pos : Pos} (ha : PE X a ta) (h : PCh X (op :: op' :: ops) (b :: b' :: bs) t) (hm : lastMarks (op :: op' :: ops) (b :: b' :: bs) = false := by with_unfolding_all rfl) :
    PT X (.Compare a (op :: op' :: ops) (b :: b' :: bs) pos) (fun σ H Q => ta σ H fun x H1 => t x σ H1 Q) := by
  refine ⟨fun pins s σ H Q I hw => ?_⟩
  exact isTrue_chain (thn (ha.run pins s σ H _ I hw) fun v s1 ⟨x, H1, I1, r1, q1⟩ => h.run pos pins s1 σ H1 x v Q I1 r1 q1) hm
section
variable {K : PySem.W.Frag} {σ : L2.St} {H H' : Hp} {ta tb te tx tc : TE} {t u : TT} {x y z v : V} {D : Ends} {tu tw tz : TS} {g : TG} {r r' : R2}
theorem et_chainN {t : V → TT} {b : Bool} (ha : Ev ta σ H x) (h : EvT (t x) σ H b) : EvT (fun σ H Q => ta σ H fun x H1 => t x σ H1 Q) σ H b := fun H1 e _ q => ha H1 e _ fun H2 e2 => h H2 (e.trans e2) _ fun H3 e3 => q H3 (e2.trans e3)
theorem et_last {b : Bool} (hb : Ev tb σ H y) (hr : RV r x y H (.bl b)) : EvT (tLast r tb x) σ H b := fun H1 e _ q => hb H1 e _ fun H2 e2 => hr H2 (e.trans e2) _ fun H3 e3 => ⟨b, rfl, q H3 (e2.trans e3)⟩
theorem et_link {t : V → TT} {k b : Bool} (hb : Ev tb σ H y) (hr : RV r x y H (.bl k)) (h : k = true → EvT (t y) σ H b) : EvT (tLink r tb t x) σ H (k && b) := fun H1 e Q q => hb H1 e _ fun H2 e2 => hr H2 (e.trans e2) _ fun H3 e3 => ⟨k, rfl, by
  cases k with
  | false =>
    rw [if_neg Bool.false_ne_true]
    exact q H3 (e2.trans e3)
  | true =>
    rw [if_pos rfl]
    exact h rfl H3 ((e.trans e2).trans e3) _ fun H4 e4 => q H4 ((e2.trans e3).trans e4)⟩
/-! ### comprehensions over a tuple, over a range from a number on -/
theorem el_lcT {a : Addr} {xs : List V} {tl : TE} {j : Nat} {vs : List Nat} (f : Nat → Bool) (v : Nat → V) (h : Ev tl σ H (.ref a)) (hx : SqT K H a xs) (hz : xs.length ≤ 40000) (hw : ∀ x, wipe ((wipe σ vs).set j (some x)) vs = wipe σ vs)
    (ht : ∀ (i : Nat) (x : V) H1, Ex H H1 → xs[i]? = some x → EvT t ((wipe σ vs).set j (some x)) H1 (f i)) (he : ∀ (i : Nat) (x : V) H1, Ex H H1 → xs[i]? = some x → f i = true → Ev te ((wipe σ vs).set j (some x)) H1 (v i)) :
    EvL (tLc (iTup K tl) (gName j) t te vs) σ H (given xs.length f v) := fun H0 e Q q => h H0 e _ fun H1 e1 => ⟨a, rfl, ⟨xs, ex_t (e.trans e1) hx⟩, fun Dl hD =>
  lc_tup (xs := xs) (Cw H1 f v Dl) ⟨hD, Ex.new hD, upd_same⟩ (fun i H' _ p => ex_t ((e.trans e1).trans p.2.1) hx) (fun i x H' hi p => ⟨hw x, cw_turn p (by have := (List.getElem?_eq_some_iff.mp hi).1; omega) (ht i x H1 (e.trans e1) hi) (fun hf => he i x H1 (e.trans e1) hi hf)⟩)
    (fun H' p => q Dl H' (fresh_back e1 p.1) (e1.trans p.2.1) p.2.2)⟩
theorem el_lcNU {xs : List V} {tl : TE} {j : Nat} {vs : List Nat} (f : Nat → Bool) (v : Nat → V) (h : EvU tl σ H xs) (hz : xs.length ≤ 40000) (hw : ∀ x, wipe ((wipe σ vs).set j (some x)) vs = wipe σ vs)
    (ht : ∀ (i : Nat) (x : V) H1, Ex H H1 → xs[i]? = some x → EvT t ((wipe σ vs).set j (some x)) H1 (f i)) (he : ∀ (i : Nat) (x : V) H1, Ex H H1 → xs[i]? = some x → f i = true → Ev te ((wipe σ vs).set j (some x)) H1 (v i)) :
    EvL (tLc (iTup K tl) (gName j) t te vs) σ H (given xs.length f v) := fun H0 e Q q => h H0 e _ fun a H1 ha e1 hx => ⟨a, rfl, ⟨xs, st_of hx⟩, fun Dl hD =>
  lc_tup (xs := xs) (Cw H1 f v Dl) ⟨hD, Ex.new hD, upd_same⟩ (fun i H' _ p => st_of (p.2.1 a _ hx)) (fun i x H' hi p => ⟨hw x, cw_turn p (by have := (List.getElem?_eq_some_iff.mp hi).1; omega) (ht i x H1 (e.trans e1) hi) (fun hf => he i x H1 (e.trans e1) hi hf)⟩)
    (fun H' p => q Dl H' (fresh_back e1 p.1) (e1.trans p.2.1) p.2.2)⟩
theorem el_lcR2 {ta : TA} {j : Nat} {vs : List Nat} {lo n : Int} (f : Nat → Bool) (v : Nat → V) (h : EvA ta σ H [.int lo, .int n]) (hn : 0 ≤ lo ∧ lo ≤ 40000 ∧ -40000 ≤ n ∧ n ≤ 40000) (hw : ∀ x, wipe ((wipe σ vs).set j (some x)) vs = wipe σ vs)
    (ht : ∀ (i : Nat) H1, Ex H H1 → lo + (i : Int) < n → EvT t ((wipe σ vs).set j (some (.int (lo + (i : Int))))) H1 (f i)) (he : ∀ (i : Nat) H1, Ex H H1 → lo + (i : Int) < n → f i = true → Ev te ((wipe σ vs).set j (some (.int (lo + (i : Int))))) H1 (v i)) :
    EvL (tLc (iRng2 ta) (gName j) t te vs) σ H (given (n - lo).toNat f v) := fun H0 e Q q => h H0 e _ fun H1 e1 => ⟨lo, n, rfl, ⟨by omega, by omega, by omega, by omega⟩, fun Dl hD =>
  lc_range (lo := lo) (n := (n - lo).toNat) (Cw H1 f v Dl) ⟨hD, Ex.new hD, upd_same⟩ (fun i H' hi p => ⟨hw _, cw_turn p (by omega) (ht i H1 (e.trans e1) (by omega)) (fun hf => he i H1 (e.trans e1) (by omega) hf)⟩) (fun H' p => q Dl H' (fresh_back e1 p.1) (e1.trans p.2.1) p.2.2)⟩
theorem ev_lenI {a : Addr} {ns : List Int} (h : Ev ta σ H (.ref a)) (hs : SqL K H a (ns.map V.int)) : Ev (tCB (rLenS K) (tCons ta tNil)) σ H (.int (ns.length : Int)) := ev_is (ev_len h hs) (by rw [List.length_map])
/-- all([..]) of a made list of truths -/
theorem ev_allN {n : Nat} {b : Nat → Bool} (h : EvL te σ H (given n (fun _ => true) (fun i => .bl (b i)))) : Ev (tCB (rAll K) (tCons te tNil)) σ H (.bl ((List.range n).all b)) :=
  ev_cbL h fun p H1 hp _ H2 e2 _ q => ⟨p, (List.range n).map b, rfl, by
    rw [given_all] at hp
    rw [List.map_map]
    exact ex_l e2 (sq_of hp), by
    rw [List.all_map]
    exact q H2 (Ex.refl H2)⟩
theorem ev_allT {n : Nat} (h : EvL te σ H (given n (fun _ => true) (fun _ => .bl true))) : Ev (tCB (rAll K) (tCons te tNil)) σ H (.bl true) := ev_is (ev_allN (b := fun _ => true) h) (by
  have : (List.range n).all (fun _ => true) = true := List.all_eq_true.mpr fun _ _ => rfl
  rw [this])
/-- sorted of whole numbers: whatever is the same list in order -/
theorem el_sorted {a : Addr} {ns ms : List Int} (h : Ev ta σ H (.ref a)) (hs : SqL K H a (ns.map V.int)) (hm : ∀ ns' : List Int, ns'.Perm ns → ns'.Pairwise (· ≤ ·) → ns' = ms) : EvL (tCB (rSortedI K) (tCons ta tNil)) σ H (ms.map V.int) := fun H1 e Q q =>
  h H1 e _ fun H2 e2 => ⟨a, ns, rfl, ex_l (e.trans e2) hs, fun ns' p hp hq hn => by
    have := hm ns' hp hq
    subst this
    exact q p _ (fresh_back e2 hn) (e2.trans (Ex.new hn)) upd_same⟩
theorem rgV_ints (a b : Int) : rgV a b = ((List.range (b - a).toNat).map fun (i : Nat) => a + (i : Int)).map V.int := by
  unfold rgV
  rw [List.map_map]
  rfl
theorem el_listRg {i j : Int} (ha : Ev ta σ H (.int i)) (hb : Ev tb σ H (.int j)) (h0 : 0 ≤ i) (h1 : i ≤ 100000) (h2 : 0 ≤ j) (h3 : j ≤ 100000) : EvL (tLstRg (tRg2 ta tb)) σ H (((List.range (j - i).toNat).map fun (k : Nat) => i + (k : Int)).map V.int) := fun H1 e Q q =>
  ha H1 e _ fun H2 e2 => hb H2 (e.trans e2) _ fun H3 e3 => ⟨i, j, rfl, rfl, RgOk.of_le h0 (by omega) (by omega) h2, fun p hp => by
    rw [rgV_ints]
    exact q p _ (fresh_back (e2.trans e3) hp) ((e2.trans e3).trans (Ex.new hp)) upd_same⟩
end
/-! ### two lists in order with the same numbers are one -/
theorem sorted_eq : ∀ {l m : List Int}, l.Perm m → l.Pairwise (· ≤ ·) → m.Pairwise (· ≤ ·) → l = m
  | [], m, p, _, _ => (List.Perm.nil_eq p)
  | a :: l, [], p, _, _ => by
    have := p.length_eq
    simp at this
  | a :: l, b :: m, p, hl, hm => by
    have ha := List.pairwise_cons.mp hl
    have hb := List.pairwise_cons.mp hm
    have h1 : a ≤ b := by
      rcases List.mem_cons.mp (p.mem_iff.mpr List.mem_cons_self) with e | e
      · rw [e]; exact Int.le_refl _
      · exact ha.1 b e
    have h2 : b ≤ a := by
      rcases List.mem_cons.mp (p.mem_iff.mp List.mem_cons_self) with e | e
      · rw [e]; exact Int.le_refl _
      · exact hb.1 a e
    have e : a = b := by omega
    subst e
    rw [sorted_eq (List.Perm.cons_inv p) ha.2 hb.2]
theorem range_sorted (a : Int) (n : Nat) : ((List.range n).map fun (k : Nat) => a + (k : Int)).Pairwise (· ≤ ·) := by
  rw [List.pairwise_map]
  refine List.Pairwise.imp (fun h => ?_) List.pairwise_lt_range
  omega
theorem range_nodup (a : Int) (n : Nat) : ((List.range n).map fun (k : Nat) => a + (k : Int)).Nodup := by
  unfold List.Nodup
  rw [List.pairwise_map]
  refine List.Pairwise.imp (fun h => ?_) List.pairwise_lt_range
  omega
theorem range_mem {a x : Int} {n : Nat} : x ∈ ((List.range n).map fun (k : Nat) => a + (k : Int)) ↔ a ≤ x ∧ x < a + n := by
  rw [List.mem_map]
  constructor
  · rintro ⟨k, hk, rfl⟩
    have := List.mem_range.mp hk
    omega
  · intro h
    exact ⟨(x - a).toNat, List.mem_range.mpr (by omega), by omega⟩
end PA

set_option maxHeartbeats 4000000
set_option Elab.async false
set_option linter.all false
namespace PA
/-! threes: the number to the last one, and all three -/
def bas (l n : Int) : Int := if n ≤ l then n else num l (n - l - 1)
def three (l n : Int) : List Int := [bas l n, l + fst l (bas l n) + 1, l + fst l (bas l n) + 1 + bas l n]
theorem bas_rng {l n : Int} (hl : Can l) (h1 : 1 ≤ n) (h2 : n ≤ 3 * l) : 1 ≤ bas l n ∧ bas l n ≤ l := by
  unfold bas
  split
  · exact ⟨h1, by assumption⟩
  · have a := at_num hl (show 0 ≤ n - l - 1 by omega) (show n - l - 1 < 2 * l by omega)
    exact a.1
theorem three_in {l n : Int} (hl : Can l) (h1 : 1 ≤ n) (h2 : n ≤ 3 * l) : n ∈ three l n := by
  by_cases h : n ≤ l
  · have e : bas l n = n := if_pos h
    unfold three
    rw [e]
    exact List.mem_cons_self
  · have e : bas l n = num l (n - l - 1) := if_neg h
    have a := at_num hl (show 0 ≤ n - l - 1 by omega) (show n - l - 1 < 2 * l by omega)
    unfold three
    rw [e]
    rcases a.2 with z | z
    · exact List.mem_cons_of_mem _ (List.mem_cons.mpr (.inl (by omega)))
    · exact List.mem_cons_of_mem _ (List.mem_cons_of_mem _ (List.mem_cons.mpr (.inl (by omega))))
theorem three_shape {l n : Int} (hl : Can l) (h1 : 1 ≤ n) (h2 : n ≤ 3 * l) : 1 ≤ bas l n ∧ bas l n ≤ l ∧ l < l + fst l (bas l n) + 1 ∧ l + fst l (bas l n) + 1 < l + fst l (bas l n) + 1 + bas l n ∧ l + fst l (bas l n) + 1 + bas l n ≤ 3 * l := by
  have b := bas_rng hl h1 h2
  have f := fst_rng hl b.1 b.2
  omega
theorem bas_of {l n x : Int} (hl : Can l) (h1 : 1 ≤ n) (h2 : n ≤ 3 * l) (h : x ∈ three l n) : bas l x = bas l n ∧ 1 ≤ x ∧ x ≤ 3 * l := by
  have s := three_shape hl h1 h2
  unfold three at h
  generalize bas l n = m at *
  rcases List.mem_cons.mp h with e | h
  · subst e
    exact ⟨if_pos s.2.1, by omega, by omega⟩
  rcases List.mem_cons.mp h with e | h
  · refine ⟨?_, by omega, by omega⟩
    unfold bas
    rw [if_neg (by omega)]
    exact num_at hl ⟨⟨s.1, s.2.1⟩, .inl (by omega)⟩
  rcases List.mem_cons.mp h with e | h
  · refine ⟨?_, by omega, by omega⟩
    unfold bas
    rw [if_neg (by omega)]
    exact num_at hl ⟨⟨s.1, s.2.1⟩, .inr (by omega)⟩
  · cases h
theorem three_same {l n x : Int} (hl : Can l) (h1 : 1 ≤ n) (h2 : n ≤ 3 * l) (h : x ∈ three l n) : three l x = three l n := by
  unfold three
  rw [(bas_of hl h1 h2 h).1]
def every (l : Int) (k : Nat) : List Int := (List.range k).flatMap fun (i : Nat) => three l ((i : Int) + 1)
theorem every_succ (l : Int) (k : Nat) : every l (k + 1) = every l k ++ three l ((k : Int) + 1) := by
  unfold every
  rw [List.range_succ, List.flatMap_append, List.flatMap_cons, List.flatMap_nil, List.append_nil]
theorem every_in {l : Int} {k : Nat} {x : Int} (h : x ∈ every l k) : ∃ i : Nat, i < k ∧ x ∈ three l ((i : Int) + 1) := by
  obtain ⟨i, hi, hx⟩ := List.mem_flatMap.mp h
  exact ⟨i, List.mem_range.mp hi, hx⟩
theorem every_len (l : Int) : ∀ k : Nat, (every l k).length = 3 * k
  | 0 => rfl
  | k + 1 => by
    rw [every_succ, List.length_append, every_len l k]
    show 3 * k + 3 = _
    omega
theorem bas_low {l n : Int} (h : n ≤ l) : bas l n = n := if_pos h
theorem three_nodup {l n : Int} (hl : Can l) (h1 : 1 ≤ n) (h2 : n ≤ 3 * l) : (three l n).Nodup := by
  have s := three_shape hl h1 h2
  unfold three
  generalize bas l n = m at *
  refine List.nodup_cons.mpr ⟨fun h => ?_, List.nodup_cons.mpr ⟨fun h => ?_, List.nodup_cons.mpr ⟨fun h => (nomatch h), List.nodup_nil⟩⟩⟩
  · rcases List.mem_cons.mp h with e | h
    · omega
    rcases List.mem_cons.mp h with e | h
    · omega
    · cases h
  · rcases List.mem_cons.mp h with e | h
    · omega
    · cases h
theorem every_nodup {l : Int} (hl : Can l) : ∀ k : Nat, (k : Int) ≤ l → (every l k).Nodup
  | 0, _ => List.nodup_nil
  | k + 1, hk => by
    rw [every_succ]
    refine List.nodup_append.mpr ⟨every_nodup hl k (by omega), three_nodup hl (by omega) (by omega), fun a ha b hb e => ?_⟩
    obtain ⟨i, hi, hx⟩ := every_in ha
    have b1 := (bas_of hl (by omega) (by omega) hx).1
    have b2 := (bas_of hl (by omega) (by omega) hb).1
    rw [bas_low (n := (i : Int) + 1) (by omega)] at b1
    rw [bas_low (n := (k : Int) + 1) (by omega)] at b2
    rw [e] at b1
    omega
theorem every_all {l : Int} (hl : Can l) (x : Int) : x ∈ every l l.toNat ↔ 1 ≤ x ∧ x ≤ 3 * l := by
  have h1 := hl.1
  constructor
  · intro h
    obtain ⟨i, hi, hx⟩ := every_in h
    exact (bas_of hl (by omega) (by omega) hx).2
  · intro h
    have b := bas_rng hl h.1 h.2
    refine List.mem_flatMap.mpr ⟨(bas l x - 1).toNat, List.mem_range.mpr (by omega), ?_⟩
    have e : (((bas l x - 1).toNat : Nat) : Int) + 1 = bas l x := by omega
    rw [e]
    have e2 : three l (bas l x) = three l x := by
      unfold three
      rw [bas_low b.2]
    rw [e2]
    exact three_in hl h.1 h.2
end PA

set_option Elab.async false
set_option linter.all false
set_option maxRecDepth 100000
set_option maxHeartbeats 4000000
namespace PA
open PySem PySem.Spec PyProof.Rows L2 Evl
/-! ### an own class without an __init__ of its own -/
structure New0 (K : PySem.W.Frag) (C : Addr) : Prop where
  makes : PySem.W.makesIn K C = true
  init : PySem.W.findIn K (.ref C) "__init__" = some (some (.builtin "object.__init__"))
  kp : PySem.W.keepIn K (.ref C) = true
theorem call_bare {prog : Program} {w : World} {A : Around} {K : PySem.W.Frag} {C : Addr} {R : Result → Shared → Prop} {s : Shared} (X : K.In s.heap) (N : New0 K C)
    (h : R (.ok (.ret (.ref (s.heap.objs.size + 1)))) { s with heap := (s.heap.push PySem.W.emptyDict).push (PySem.W.instObj C s.heap.objs.size) }) : codeAny (model prog w) A (.call (.ref C) ⟨[], []⟩) R s := by
  obtain ⟨hh, g, d, t, os⟩ := s
  have Y := PySem.W.makes_of (M := model prog w) X N.makes
  refine PySem.W.make_core Y (PySem.W.looks_findIn X N.init) (fun self => PySem.W.Looks.of_pure (PySem.W.oi_bind self)) (.inr ⟨rfl, rfl⟩) ?_
  have e2 : ((hh.push PySem.W.emptyDict).push (PySem.W.instObj C hh.objs.size)).get? (hh.objs.size + 1) = some (PySem.W.instObj C hh.objs.size) := by
    have := Heap.get?_push_size (hh.push PySem.W.emptyDict) (o := PySem.W.instObj C hh.objs.size) rfl
    rw [Heap.size_push] at this
    exact this
  have t1 : PySem.W.Looks (model prog w) ((hh.push PySem.W.emptyDict).push (PySem.W.instObj C hh.objs.size)) (typeOf (.ref (hh.objs.size + 1))) (.ref C) := (PySem.W.Looks.ld e2).andThen .now
  have t2 : PySem.W.Looks (model prog w) ((hh.push PySem.W.emptyDict).push (PySem.W.instObj C hh.objs.size)) (isInstance (.ref (hh.objs.size + 1)) (.type "object")) true := t1.andThen (Y.top.keeps fun b o e => Heap.get?_push_of_some _ (Heap.get?_push_of_some _ e))
  refine codeAny_call_builtin PySem.W.oi_plain PySem.W.entry_oi (@PySem.W.check_slot (model prog w) _ _ _ "object.__init__" "object" "__init__" (.ref (hh.objs.size + 1)) [] [] _ PySem.W.oi_kind PySem.W.oi_split t2 (PySem.W.oi_args (.ref (hh.objs.size + 1))) ?_)
  rw [PySem.W.oi_run]
  exact wpAny_pure (And.intro rfl h)
/-- C() -/
def tNew (C : Addr) : TE := fun _ H Q => ∀ x dx, H x = none → H dx = none → dx ≠ x → Q (.ref x) (upd (upd H dx (.own x)) x (.ins C dx []))
theorem pe_new0 {X : Cx} {C : Addr} {x : Str} {p pos : Pos} (N : New0 X.K C) (hg : Gl X x) (hm : X.mg x = some (.ref C)) (hdb : (x == ("__debug__" : Str)) = false := by decide) : PE X (.Call (.Name x p) [] [] pos) (tNew C) := by
  refine ⟨fun pins s σ H Q I h => ?_⟩
  refine wpAny_Call_Name_kw (ld_glob I hg hm ?_ hdb)
  refine PySem.W.callWith_K0 I.kIn N.kp (wpAny_call (call_bare I.kIn N ?_))
  exact ⟨V.ref (s.heap.objs.size + 1), _, Inv.made (C := C) I, rfl, h _ _ (I.hok.fresh (Nat.le_succ _)) (I.hok.fresh (Nat.le_refl _)) (Nat.ne_of_lt (Nat.lt_succ_self _))⟩
/-- either reading -/
theorem PE.or {X : Cx} {e : Expr} {t u : TE} (h : PE X e t) (h' : PE X e u) : PE X e (fun σ H Q => t σ H Q ∨ u σ H Q) := ⟨fun pins s σ H Q I hw => by
  rcases hw with hw | hw
  · exact h.run pins s σ H Q I hw
  · exact h'.run pins s σ H Q I hw⟩
/-! ### what isinstance asks of an instance -/
structure InsT (K : PySem.W.Frag) (C : Addr) : Prop where
  cl : Cls K C
  ha : PySem.W.findIn K (.ref C) "__class__" = some (some (.builtin "object.__class__"))
  hn : PySem.W.specialIn K (.builtin "object.__class__") "__get__" = some (some (.builtin "getset_descriptor.__get__"))
  htk : PySem.W.takesIn K (.builtin "object.__class__") = some true
  hm : PySem.W.mroIn K C (.type "object") = some true
theorem InsT.ty {K : PySem.W.Frag} {C : Addr} (h : InsT K C) {H : Hp} {a dx : Addr} {fs : List (Str × V)} (e : H a = some (.ins C dx fs)) : TyX K H (.ref a) (.ref C) := .base (.ins e h.cl h.ha h.hn h.htk h.hm)
section
variable {K : PySem.W.Frag} {σ : L2.St} {H H' : Hp} {ta tb te tx tc : TE} {t u : TT} {x y z v : V} {D : Ends} {tu tw tz : TS} {g : TG} {r r' : R2}
/-- a new instance of the class at C with these attributes -/
def EvI (te : TE) (σ : L2.St) (H : Hp) (C : Addr) (fs : List (Str × V)) : Prop := ∀ H1, Ex H H1 → ∀ Q : VK, (∀ p dx H2, H1 p = none → Ex H1 H2 → H2 p = some (.ins C dx fs) → Q (.ref p) H2) → te σ H1 Q
theorem ei_new {C : Addr} : EvI (tNew C) σ H C [] := fun H1 e Q q p dx hp hdx ne => q p dx _ hp (fun b o hb => by
  rw [upd_ne (ne_of_none hb hp), upd_ne (ne_of_none hb hdx)]
  exact hb) upd_same
/-- C(v), its __init__ storing one attribute -/
def sp_init1 (C : Addr) (f : Str) : Sp := fun vs H Q _ => ∃ (p dx : Addr) (v : V), vs = [.ref p, v] ∧ H p = some (.ins C dx []) ∧ Q .non (upd H p (.ins C dx [(f, v)]))
theorem ei_make {C : Addr} {f : Str} {t : TA} {E : XK} (h : EvA t σ H [v]) : EvI (tMake C (sp_init1 C f) [] E t) σ H C [(f, v)] := fun H1 e Q q => h H1 e _ fun H2 e2 p dx hp hdx ne =>
  ⟨p, dx, v, rfl, upd_same, rfl, q p dx _ (fresh_back e2 hp) (fun b o hb => by
    have hb2 := e2 _ _ hb
    rw [upd_ne (ne_of_none hb2 hp), upd_ne (ne_of_none hb2 hp), upd_ne (ne_of_none hb2 hdx)]
    exact hb2) upd_same⟩
theorem ev_methN {C : Addr} {fs : List (Str × V)} {m : Str} {sp : Sp} {E : XK} {t : TA} {vs : List V} (hi : EvI ta σ H C fs) (hl : fs.lookup m = none) (ha : EvA t σ H vs) (hs : ∀ p dx H1, Ex H H1 → H1 p = some (.ins C dx fs) → SpV sp (.ref p :: vs) H1 z) : Ev (tMeth C m sp [] E ta t) σ H z := fun H1 e Q q =>
  hi H1 e _ fun p dx H2 hp e2 h2 => ⟨p, dx, fs, rfl, h2, hl, ha H2 (e.trans e2) _ fun H3 e3 => by
    rw [List.append_nil]
    exact hs p dx H3 ((e.trans e2).trans e3) (e3 _ _ h2) H3 (Ex.refl H3) Q (fun H4 e4 => q H4 ((e2.trans e3).trans e4)) E⟩
theorem ev_methV {C p dx : Addr} {fs : List (Str × V)} {m : Str} {sp : Sp} {E : XK} {t : TA} {vs : List V} (hp : H p = some (.ins C dx fs)) (hv : Ev ta σ H (.ref p)) (hl : fs.lookup m = none) (ha : EvA t σ H vs) (hs : SpV sp (.ref p :: vs) H z) : Ev (tMeth C m sp [] E ta t) σ H z := fun H1 e Q q =>
  hv H1 e _ fun H2 e2 => ⟨p, dx, fs, rfl, (e.trans e2) _ _ hp, hl, ha H2 (e.trans e2) _ fun H3 e3 => by
    rw [List.append_nil]
    exact hs H3 ((e.trans e2).trans e3) Q (fun H4 e4 => q H4 ((e2.trans e3).trans e4)) E⟩
theorem ev_orL {ta tb : TE} (h : Ev ta σ H v) : Ev (fun σ H Q => ta σ H Q ∨ tb σ H Q) σ H v := fun H1 e Q q => .inl (h H1 e Q q)
theorem ev_orR {ta tb : TE} (h : Ev tb σ H v) : Ev (fun σ H Q => ta σ H Q ∨ tb σ H Q) σ H v := fun H1 e Q q => .inr (h H1 e Q q)
theorem ev_fld {C p dx : Addr} {fs : List (Str × V)} {f : Str} (hp : H p = some (.ins C dx fs)) (hv : Ev ta σ H (.ref p)) (c : Cls K C) (n : NoAttr K C f) (hl : fs.lookup f = some v) : Ev (tFld K ta f) σ H v := fun H1 e Q q =>
  hv H1 e _ fun H2 e2 => ⟨p, C, dx, fs, v, rfl, (e.trans e2) _ _ hp, c, n, hl, q H2 e2⟩
/-- a statement x = C(..) -/
theorem q_asgI {i : Nat} {C : Addr} {fs : List (Str × V)} (h : EvI te σ H C fs) (k : ∀ p dx H1, H p = none → Ex H H1 → H1 p = some (.ins C dx fs) → tz D (σ.set i (some (.ref p))) H1) : tSeq (tAsg te (gName i)) tz D σ H := h H (Ex.refl H) _ fun p dx H1 hp e h1 => k p dx H1 hp e h1
theorem s_retI {C : Addr} {fs : List (Str × V)} (h : EvI te σ H C fs) (k : ∀ p dx H1, H p = none → Ex H H1 → H1 p = some (.ins C dx fs) → D.rt (.ref p) H1) : tRet te D σ H := h H (Ex.refl H) _ k
/-- a def that hands back a new instance -/
def RetI (C : Addr) (fs : List (Str × V)) (H : Hp) (Q : VK) : Prop := ∀ p dx H2, H p = none → Ex H H2 → H2 p = some (.ins C dx fs) → Q (.ref p) H2
theorem RetI.go {C : Addr} {fs : List (Str × V)} {Q : VK} (k : RetI C fs H Q) (e : Ex H H') {p dx : Addr} {H2 : Hp} (hp : H' p = none) (e2 : Ex H' H2) (h : H2 p = some (.ins C dx fs)) : Q (.ref p) H2 := k p dx H2 (fresh_back e hp) (e.trans e2) h
def SpI (sp : Sp) (vs : List V) (H : Hp) (C : Addr) (fs : List (Str × V)) : Prop := ∀ H1, Ex H H1 → ∀ Q : VK, (∀ p dx H2, H1 p = none → Ex H1 H2 → H2 p = some (.ins C dx fs) → Q (.ref p) H2) → ∀ E : XK, sp vs H1 Q E
theorem ei_call {sp : Sp} {dvs vs : List V} {E : XK} {ta : TA} {C : Addr} {fs : List (Str × V)} (h : EvA ta σ H vs) (hs : SpI sp (vs ++ dvs) H C fs) : EvI (tCall sp dvs E ta) σ H C fs := fun H1 e Q q =>
  h H1 e _ fun H2 e2 => hs H2 (e.trans e2) Q (fun p dx H3 hp e3 h3 => q p dx H3 (fresh_back e2 hp) (e2.trans e3) h3) E
/-- a comprehension over enumerate(a list) -/
theorem el_lcE {a : Addr} {xs : List V} {tl : TE} {j1 j2 : Nat} {vs : List Nat} (f : Nat → Bool) (v : Nat → V) (h : Ev tl σ H (.ref a)) (hx : SqL K H a xs) (hz : xs.length ≤ 40000) (hw : ∀ x y, wipe (((wipe σ vs).set j1 (some x)).set j2 (some y)) vs = wipe σ vs)
    (ht : ∀ (i : Nat) (x : V) H1, Ex H H1 → xs[i]? = some x → EvT t (((wipe σ vs).set j1 (some (.int (i : Nat)))).set j2 (some x)) H1 (f i)) (he : ∀ (i : Nat) (x : V) H1, Ex H H1 → xs[i]? = some x → f i = true → Ev te (((wipe σ vs).set j1 (some (.int (i : Nat)))).set j2 (some x)) H1 (v i)) :
    EvL (tLc (iEnum K (tCons tl tNil)) (gTup K 2 (gCons (gName j1) (gCons (gName j2) gNil))) t te vs) σ H (given xs.length f v) := fun H0 e Q q => h H0 e _ fun H1 e1 => ⟨a, xs, rfl, ex_l (e.trans e1) hx, fun Dl hD =>
  ⟨fun i m H' => m = xs.length - i ∧ i ≤ xs.length ∧ Cw H1 f v Dl i H', ⟨xs.length, by simp, Nat.zero_le _, hD, Ex.new hD, upd_same⟩, fun i m H' hW => by
    obtain ⟨em, hi, p⟩ := hW
    have hs : SqL K H' a xs := ex_l ((e.trans e1).trans p.2.1) hx
    by_cases hlt : i < xs.length
    · refine .inr ⟨⟨xs, xs[i], hs, List.getElem?_eq_getElem hlt⟩, Cw H1 f v Dl (i + 1), fun H'' p' => ⟨xs.length - (i + 1), by omega, rfl, hlt, p'⟩, fun y H'' hy => ?_⟩
      obtain ⟨T, x, rfl, hT, rfl, hg⟩ := hy
      have gx := hg xs hs
      have nD : Dl ≠ T := ne_of_none p.2.2 hT
      have p2 : Cw H1 f v Dl i (upd H' T (.tup [.int (i : Nat), x])) := ⟨p.1, p.2.1.trans (Ex.new hT), by rw [upd_ne nD]; exact p.2.2⟩
      exact ⟨T, _, rfl, st_of upd_same, rfl, _, _, rfl, _, _, rfl, rfl, hw _ _, cw_turn p2 (by omega) (ht i x H1 (e.trans e1) gx) fun hf => he i x H1 (e.trans e1) gx hf⟩
    · have ei : i = xs.length := by omega
      subst ei
      exact .inl ⟨⟨xs, hs, Nat.le_refl _⟩, q Dl H' (fresh_back e1 p.1) (e1.trans p.2.1) p.2.2⟩⟩⟩
end
end PA

set_option Elab.async false
set_option linter.all false
set_option maxRecDepth 100000
set_option maxHeartbeats 4000000
namespace PA
open PySem PySem.Spec PyProof.Rows L2 Evl
/-- a list of whole numbers that may be read, not too long -/
def IntL (K : PySem.W.Frag) (v : V) (H : Hp) : Prop := ∃ (a : Addr) (ns : List Int), v = .ref a ∧ SqL K H a (ns.map V.int) ∧ ns.length ≤ 1000
def Stab (P : V → Hp → Prop) : Prop := ∀ v H H', Ex H H' → P v H → P v H'
theorem intL_stab {K : PySem.W.Frag} : Stab (IntL K) := fun v H H' e h => by
  obtain ⟨a, ns, rfl, hs, hl⟩ := h
  exact ⟨a, ns, rfl, ex_l e hs, hl⟩
section
variable {K : PySem.W.Frag} {σ : L2.St} {H H' : Hp} {ta tb te tx tc : TE} {t u : TT} {x y z v : V} {D : Ends} {tu tw tz : TS} {g : TG} {r r' : R2} {P : V → Hp → Prop}
/-- a value of which P holds -/
def EvQ (te : TE) (σ : L2.St) (H : Hp) (P : V → Hp → Prop) : Prop := ∀ H1, Ex H H1 → ∀ Q : VK, (∀ v H2, Ex H1 H2 → P v H2 → Q v H2) → te σ H1 Q
/-- n values of each of which P holds -/
def EvAP (ta : TA) (σ : L2.St) (H : Hp) (P : V → Hp → Prop) (n : Nat) : Prop := ∀ H1, Ex H H1 → ∀ Q : List V → Hp → Prop, (∀ vs H2, Ex H1 H2 → vs.length = n → (∀ v ∈ vs, P v H2) → Q vs H2) → ta σ H1 Q
theorem eap_nil : EvAP tNil σ H P 0 := fun H1 _ _ q => q [] H1 (Ex.refl H1) rfl fun _ h => nomatch h
theorem eap_cons {tr : TA} {n : Nat} (st : Stab P) (h : EvQ ta σ H P) (hr : EvAP tr σ H P n) : EvAP (tCons ta tr) σ H P (n + 1) := fun H1 e _ q =>
  h H1 e _ fun x H2 e2 hx => hr H2 (e.trans e2) _ fun vs H3 e3 hl hv => q (x :: vs) H3 (e2.trans e3) (by rw [List.length_cons, hl]) fun v hm => by
    rcases List.mem_cons.mp hm with e | e
    · subst e
      exact st _ _ _ e3 hx
    · exact hv v e
theorem eq_val (h : Ev te σ H v) (hp : ∀ H1, Ex H H1 → P v H1) : EvQ te σ H P := fun H1 e _ q => h H1 e _ fun H2 e2 => q v H2 e2 (hp H2 (e.trans e2))
theorem eq_new {ns : List Int} (h : EvL te σ H (ns.map V.int)) (hl : ns.length ≤ 1000) : EvQ te σ H (IntL K) := fun H1 e _ q => h H1 e _ fun p H2 hp e2 h2 => q _ H2 e2 ⟨p, ns, rfl, sq_of h2, hl⟩
theorem eq_old {a : Addr} {ns : List Int} (h : Ev te σ H (.ref a)) (hs : SqL K H a (ns.map V.int)) (hl : ns.length ≤ 1000) : EvQ te σ H (IntL K) := eq_val h fun H1 e => ⟨a, ns, rfl, ex_l e hs, hl⟩
theorem eq_imp {P' : V → Hp → Prop} (h : EvQ te σ H P) (hi : ∀ v H1, P v H1 → P' v H1) : EvQ te σ H P' := fun H1 e _ q => h H1 e _ fun v H2 e2 hv => q v H2 e2 (hi v H2 hv)
/-- over a list in a slot -/
theorem s_forV {a : Addr} {xs : List V} {tl : TE} {j : Nat} (h : Ev tl σ H (.ref a)) (hx : SqL K H a xs) (S : L2.St → Prop) (h0 : S σ)
    (hs : ∀ x σ' H' H0, Ex H H' → Ex H0 H' → x ∈ xs → S σ' → tu { D with nx := fun σ2 H2 => S σ2 ∧ Ex H0 H2, ct := fun σ2 H2 => S σ2 ∧ Ex H0 H2, bk := D.nx } (σ'.set j (some x)) H') (hd : ∀ σ' H', Ex H H' → S σ' → D.nx σ' H') : tFor (iList K tl) (gName j) tu D σ H :=
  h H (Ex.refl H) _ fun H1 e => ⟨a, rfl, ⟨xs, ex_l e hx⟩, for_list (K := K) (xs := xs) (fun _ σ' H' => S σ' ∧ Ex H1 H') ⟨h0, Ex.refl _⟩ (fun i σ' H' _ w => ex_l (e.trans w.2) hx) (fun i x σ' H' hi w => hs x σ' H' H1 (e.trans w.2) w.2 (List.mem_of_getElem? hi) w.1) fun σ' H' w => hd σ' H' (e.trans w.2) w.1⟩
theorem q_forV {a : Addr} {xs : List V} {tl : TE} {j : Nat} (h : Ev tl σ H (.ref a)) (hx : SqL K H a xs) (S : L2.St → Prop) (h0 : S σ)
    (hs : ∀ x σ' H' H0, Ex H H' → Ex H0 H' → x ∈ xs → S σ' → tu { D with nx := fun σ2 H2 => S σ2 ∧ Ex H0 H2, ct := fun σ2 H2 => S σ2 ∧ Ex H0 H2, bk := tz D } (σ'.set j (some x)) H') (hd : ∀ σ' H', Ex H H' → S σ' → tz D σ' H') : tSeq (tFor (iList K tl) (gName j) tu) tz D σ H := s_forV (D := { D with nx := tz D }) h hx S h0 hs hd
/-- over a new list -/
theorem s_forN {xs : List V} {tl : TE} {j : Nat} (h : EvL tl σ H xs) (S : L2.St → Prop) (h0 : S σ)
    (hs : ∀ x σ' H' H0, Ex H H' → Ex H0 H' → x ∈ xs → S σ' → tu { D with nx := fun σ2 H2 => S σ2 ∧ Ex H0 H2, ct := fun σ2 H2 => S σ2 ∧ Ex H0 H2, bk := D.nx } (σ'.set j (some x)) H') (hd : ∀ σ' H', Ex H H' → S σ' → D.nx σ' H') : tFor (iList K tl) (gName j) tu D σ H :=
  h H (Ex.refl H) _ fun a H1 ha e hx => ⟨a, rfl, ⟨xs, sq_of hx⟩, for_list (K := K) (xs := xs) (fun _ σ' H' => S σ' ∧ Ex H1 H') ⟨h0, Ex.refl _⟩ (fun i σ' H' _ w => sq_of (w.2 _ _ hx)) (fun i x σ' H' hi w => hs x σ' H' H1 (e.trans w.2) w.2 (List.mem_of_getElem? hi) w.1) fun σ' H' w => hd σ' H' (e.trans w.2) w.1⟩
/-- over a new list of values with P -/
theorem q_forP {ta : TA} {j n : Nat} (st : Stab P) (h : EvAP ta σ H P n) (hn : n ≤ 100000) (S : L2.St → Prop) (h0 : S σ)
    (hs : ∀ x σ' H' H0, Ex H H' → Ex H0 H' → P x H' → S σ' → tu { D with nx := fun σ2 H2 => S σ2 ∧ Ex H0 H2, ct := fun σ2 H2 => S σ2 ∧ Ex H0 H2, bk := tz D } (σ'.set j (some x)) H') (hd : ∀ σ' H', Ex H H' → S σ' → tz D σ' H') : tSeq (tFor (iList K (tLst ta)) (gName j) tu) tz D σ H :=
  h H (Ex.refl H) _ fun vs H1 e1 hl hv => ⟨sz_of (by omega), fun p hp => ⟨p, rfl, ⟨vs, sq_of upd_same⟩, for_list (K := K) (xs := vs) (D := { D with nx := tz D }) (fun _ σ' H' => S σ' ∧ Ex (upd H1 p (.lst vs)) H') ⟨h0, Ex.refl _⟩ (fun i σ' H' _ w => sq_of (w.2 _ _ upd_same)) (fun i x σ' H' hi w =>
    hs x σ' H' _ (e1.trans ((Ex.new hp).trans w.2)) w.2 (st _ _ _ ((Ex.new hp).trans w.2) (hv x (List.mem_of_getElem? hi))) w.1) fun σ' H' w => hd σ' H' (e1.trans ((Ex.new hp).trans w.2)) w.1⟩⟩
theorem q_asgQ {i : Nat} (h : EvQ te σ H P) (k : ∀ v H1, Ex H H1 → P v H1 → tz D (σ.set i (some v)) H1) : tSeq (tAsg te (gName i)) tz D σ H := h H (Ex.refl H) _ fun v H1 e hv => k v H1 e hv
theorem eq_if {b : Bool} (h : EvT t σ H b) (h1 : b = true → EvQ ta σ H P) (h2 : b = false → EvQ tb σ H P) : EvQ (tIf t ta tb) σ H P := fun H1 e Q q => h H1 e _ fun H2 e2 => by
  cases b with
  | true => exact h1 rfl H2 (e.trans e2) _ fun v H3 e3 hv => q v H3 (e2.trans e3) hv
  | false => exact h2 rfl H2 (e.trans e2) _ fun v H3 e3 hv => q v H3 (e2.trans e3) hv
/-- a method called with a new list -/
theorem ev_methL {C : Addr} {fs : List (Str × V)} {m : Str} {sp : Sp} {E : XK} {xs : List V} (hi : EvI ta σ H C fs) (hl : fs.lookup m = none) (ha : EvL te σ H xs) (hs : ∀ p dx q H1, Ex H H1 → H1 p = some (.ins C dx fs) → H1 q = some (.lst xs) → SpV sp [.ref p, .ref q] H1 z) : Ev (tMeth C m sp [] E ta (tCons te tNil)) σ H z := fun H1 e Q q =>
  hi H1 e _ fun p dx H2 hp e2 h2 => ⟨p, dx, fs, rfl, h2, hl, ha H2 (e.trans e2) _ fun r H3 hr e3 h3 => hs p dx r H3 ((e.trans e2).trans e3) (e3 _ _ h2) h3 H3 (Ex.refl H3) Q (fun H4 e4 => q H4 ((e2.trans e3).trans e4)) E⟩
theorem el_listRgN {i j : Int} (ha : Ev ta σ H (.int i)) (hb : Ev tb σ H (.int j)) (h0 : -1000 ≤ i) (h1 : i ≤ 100000) (h2 : -1000 ≤ j) (h3 : j ≤ 100000) : EvL (tLstRg (tRg2 ta tb)) σ H (((List.range (j - i).toNat).map fun (k : Nat) => i + (k : Int)).map V.int) := fun H1 e Q q =>
  ha H1 e _ fun H2 e2 => hb H2 (e.trans e2) _ fun H3 e3 => ⟨i, j, rfl, rfl, ⟨by omega, by omega, by omega, by omega, by omega⟩, fun p hp => by
    rw [rgV_ints]
    exact q p _ (fresh_back (e2.trans e3) hp) ((e2.trans e3).trans (Ex.new hp)) upd_same⟩
theorem rv_isB {a b : Bool} : RV (fun x y H Q => ∃ a b, x = V.bl a ∧ y = V.bl b ∧ Q (.bl (decide (a = b))) H) (.bl a) (.bl b) H (.bl (decide (a = b))) := fun H1 _ _ q => ⟨a, b, rfl, rfl, q H1 (Ex.refl H1)⟩
theorem rv_isntB {a b : Bool} : RV (fun x y H Q => ∃ a b, x = V.bl a ∧ y = V.bl b ∧ Q (.bl (!decide (a = b))) H) (.bl a) (.bl b) H (.bl (!decide (a = b))) := fun H1 _ _ q => ⟨a, b, rfl, rfl, q H1 (Ex.refl H1)⟩
/-- over range(n) -/
theorem q_forR1S {ta : TA} {j : Nat} {n : Int} (h : EvA ta σ H [.int n]) (hn : 0 ≤ n ∧ n ≤ 100000) (S : L2.St → Prop) (h0 : S σ)
    (hs : ∀ (i : Nat) σ' H' H0, (i : Int) < n → Ex H H' → Ex H0 H' → S σ' → tu { D with nx := fun σ2 H2 => S σ2 ∧ Ex H0 H2, ct := fun σ2 H2 => S σ2 ∧ Ex H0 H2, bk := tz D } (σ'.set j (some (.int (i : Int)))) H') (hd : ∀ σ' H', Ex H H' → S σ' → tz D σ' H') : tSeq (tFor (iRng1 ta) (gName j) tu) tz D σ H :=
  q_forR1 h hn (fun _ σ' H' => S σ' ∧ Ex H H') (fun H1 e => ⟨h0, e⟩) (fun i σ' H' hi w => hs i σ' H' H hi w.2 w.2 w.1) fun σ' H' w => hd σ' H' w.2 w.1
/-- isinstance of what has P -/
theorem ev_isiQ {c : V} {cu : Value} {b : Bool} (h : EvQ ta σ H P) (hP : ∀ v H1, P v H1 → ∃ ty, TyX K H1 v ty ∧ PySem.W.kitOne K ty cu = some b) (hc : ClsV c cu) (hb : ∀ H1, Ev tb σ H1 c) (st : Stab P) : Ev (tCB (rIsi K) (tCons ta (tCons tb tNil))) σ H (.bl b) := fun H1 e Q q =>
  h H1 e _ fun x H2 e2 hx => hb H2 H2 (Ex.refl _) _ fun H3 e3 => by
    obtain ⟨ty, ht, hk⟩ := hP x H3 (st _ _ _ e3 hx)
    exact ⟨x, c, ty, cu, b, rfl, hc, ht, hk, q H3 (e2.trans e3)⟩
theorem ev_fldQ {f : Str} (h : EvQ ta σ H P) (hP : ∀ v H1, P v H1 → ∃ p C dx fs, v = .ref p ∧ H1 p = some (.ins C dx fs) ∧ Cls K C ∧ NoAttr K C f ∧ fs.lookup f = some z) : Ev (tFld K ta f) σ H z := fun H1 e Q q =>
  h H1 e _ fun x H2 e2 hx => by
    obtain ⟨p, C, dx, fs, rfl, hp, c, n, l⟩ := hP x H2 hx
    exact ⟨p, C, dx, fs, z, rfl, hp, c, n, l, q H2 e2⟩
def SpQ (sp : Sp) (vs : List V) (H : Hp) (P : V → Hp → Prop) : Prop := ∀ H1, Ex H H1 → ∀ Q : VK, (∀ v H2, Ex H1 H2 → P v H2 → Q v H2) → ∀ E : XK, sp vs H1 Q E
theorem eq_call {sp : Sp} {dvs vs : List V} {E : XK} {ta : TA} (h : EvA ta σ H vs) (hs : SpQ sp (vs ++ dvs) H P) : EvQ (tCall sp dvs E ta) σ H P := fun H1 e Q q => h H1 e _ fun H2 e2 => hs H2 (e.trans e2) Q (fun v H3 e3 hv => q v H3 (e2.trans e3) hv) E
theorem eq_callL {sp : Sp} {xs : List V} {E : XK} (h : EvL te σ H xs) (hs : ∀ p H1, Ex H H1 → H1 p = some (.lst xs) → SpQ sp [.ref p] H1 P) : EvQ (tCall sp [] E (tCons te tNil)) σ H P := fun H1 e Q q =>
  h H1 e _ fun p H2 hp e2 h2 => hs p H2 (e.trans e2) h2 H2 (Ex.refl _) Q (fun v H3 e3 hv => q v H3 (e2.trans e3) hv) E
theorem el_callL {sp : Sp} {xs ys : List V} {E : XK} (h : EvL te σ H xs) (hs : ∀ p H1, Ex H H1 → H1 p = some (.lst xs) → SpL sp [.ref p] H1 ys) : EvL (tCall sp [] E (tCons te tNil)) σ H ys := fun H1 e Q q =>
  h H1 e _ fun p H2 hp e2 h2 => hs p H2 (e.trans e2) h2 H2 (Ex.refl _) Q (fun r H3 hr e3 h3 => q r H3 (fresh_back e2 hr) (e2.trans e3) h3) E
theorem ev_call2L {sp : Sp} {xs : List V} {E : XK} (ha : Ev ta σ H x) (h : EvL te σ H xs) (hs : ∀ p H1, Ex H H1 → H1 p = some (.lst xs) → SpV sp [x, .ref p] H1 z) : Ev (tCall sp [] E (tCons ta (tCons te tNil))) σ H z := fun H1 e Q q =>
  ha H1 e _ fun H2 e2 => h H2 (e.trans e2) _ fun p H3 hp e3 h3 => hs p H3 ((e.trans e2).trans e3) h3 H3 (Ex.refl _) Q (fun H4 e4 => q H4 ((e2.trans e3).trans e4)) E
theorem eq_sorted {a : Addr} {ns : List Int} (h : Ev ta σ H (.ref a)) (hs : SqL K H a (ns.map V.int)) (hP : ∀ (ns' : List Int) p H1, ns'.Perm ns → H1 p = some (.lst (ns'.map V.int)) → P (.ref p) H1) : EvQ (tCB (rSortedI K) (tCons ta tNil)) σ H P := fun H1 e Q q =>
  h H1 e _ fun H2 e2 => ⟨a, ns, rfl, ex_l (e.trans e2) hs, fun ns' p hp hq hn => q _ _ (e2.trans (Ex.new hn)) (hP ns' p _ hp upd_same)⟩
theorem el_rev {a : Addr} {xs : List V} (h : Ev te σ H (.ref a)) (hs : SqL K H a xs) : EvL (tRevL K te) σ H xs.reverse := fun H1 e Q q =>
  h H1 e _ fun H2 e2 => ⟨a, xs, rfl, ex_l (e.trans e2) hs, fun p hp => q p _ (fresh_back e2 hp) (e2.trans (Ex.new hp)) upd_same⟩
/-- a[i], a[j] = v, w -/
theorem q_swap {l : Addr} {xs : List V} {i j : Nat} {ti tj : TE} {w : V} (hl : H l = some (.lst xs)) (h : EvU te σ H [v, w]) (ha : ∀ H1, Ev ta σ H1 (.ref l)) (hb : ∀ H1, Ev tb σ H1 (.ref l)) (hi : ∀ H1, Ev ti σ H1 (.int (i : Int))) (hj : ∀ H1, Ev tj σ H1 (.int (j : Int))) (li : i < xs.length) (lj : j < xs.length)
    (k : ∀ H1, (∀ b o, b ≠ l → H b = some o → H1 b = some o) → H1 l = some (.lst ((xs.set i v).set j w)) → tz D σ H1) : tSeq (tAsg te (gTup K 2 (gCons (gSub ta ti rSetL) (gCons (gSub tb tj rSetL) gNil)))) tz D σ H :=
  h H (Ex.refl H) _ fun p H1 hp e1 h1 => ⟨p, _, rfl, st_of h1, rfl, _, _, rfl, ha H1 H1 (Ex.refl _) _ fun H2 e2 => hi H2 H2 (Ex.refl _) _ fun H3 e3 =>
    ⟨l, xs, (i : Int), i, rfl, rfl, ((e1.trans e2).trans e3) _ _ hl, ixN_nat li, _, _, rfl, hb _ _ (Ex.refl _) _ fun H4 e4 => hj H4 H4 (Ex.refl _) _ fun H5 e5 =>
      ⟨l, xs.set i v, (j : Int), j, rfl, rfl, (e4.trans e5) _ _ upd_same, ixN_nat (by rw [List.length_set]; exact lj), rfl, k _ (fun b o nb hb => by
        rw [upd_ne nb]
        refine (e4.trans e5) _ _ ?_
        rw [upd_ne nb]
        exact ((e1.trans e2).trans e3) _ _ hb) upd_same⟩⟩⟩
theorem q_par {i j : Nat} {ta : TA} {w : V} (h : EvA ta σ H [v, w]) (k : ∀ H1, Ex H H1 → tz D ((σ.set i (some v)).set j (some w)) H1) : tSeq (tPar i j ta) tz D σ H := h H (Ex.refl H) _ fun H1 e => ⟨v, w, rfl, k H1 e⟩
/-- stores at l alone, l new -/
theorem ex_but {H0 H1 H2 : Hp} {l : Addr} (e : Ex H0 H1) (h : H0 l = none) (k : ∀ b o, b ≠ l → H1 b = some o → H2 b = some o) : Ex H0 H2 := fun b o hb => k b o (ne_of_none hb h) (e _ _ hb)
end
theorem cut_take (xs : List V) (n : Nat) : cutV xs none (some (n : Int)) = xs.take n := by
  unfold cutV
  rw [HT.sIx_none, show HT.sIx xs.length xs.length (some (n : Int)) = min n xs.length from HT.sIx_nat xs.length xs.length n]
  show List.take (min n xs.length - 0) (xs.drop 0) = _
  rw [Nat.sub_zero, List.drop_zero]
  by_cases h : n ≤ xs.length
  · rw [Nat.min_eq_left h]
  · rw [Nat.min_eq_right (by omega), List.take_length, List.take_of_length_le (by omega)]
theorem cut_init (xs : List V) (x : V) : cutV (xs ++ [x]) none (some (-1)) = xs := by
  unfold cutV
  rw [HT.sIx_none]
  have e : HT.sIx (xs ++ [x]).length (xs ++ [x]).length (some (-1)) = xs.length := by
    unfold HT.sIx
    simp
    try omega
  rw [e]
  show List.take (xs.length - 0) ((xs ++ [x]).drop 0) = xs
  rw [Nat.sub_zero, List.drop_zero]
  simp
theorem tyx_sq {K : PySem.W.Frag} {H : Hp} {a : Addr} {xs : List V} (h : SqL K H a xs) : TyX K H (.ref a) (.type "list") := by
  rcases h with (h | ⟨o, h⟩) | ⟨o, its, n, h, hc, _⟩
  · exact .base (.lst h)
  · exact .base (.frz h)
  · exact .kList h hc
theorem cut_drop (xs : List V) (n : Nat) : cutV xs (some (n : Int)) none = xs.drop n := by
  unfold cutV
  rw [HT.sIx_none, show HT.sIx xs.length 0 (some (n : Int)) = min n xs.length from HT.sIx_nat xs.length 0 n]
  by_cases h : n ≤ xs.length
  · rw [Nat.min_eq_left h, List.take_of_length_le (by rw [List.length_drop]; omega)]
  · rw [Nat.min_eq_right (by omega), List.drop_length, List.drop_of_length_le (by omega)]
    exact List.take_nil
end PA

set_option maxHeartbeats 4000000
set_option Elab.async false
set_option linter.all false
namespace PA
/-! where a number stands in a list, and whether it stands right -/
def posL (row : List Int) (n : Int) : List Nat := (List.range row.length).filter fun i => decide (row.getD i 0 = n)
def rgt (row : List Int) (n : Int) : Bool := match posL row n with
  | [a, b] => decide ((b : Int) - (a : Int) = n)
  | _ => false
/-- each number from 1 to half of the length -/
def good (row : List Int) : Bool := (List.range (row.length / 2)).all fun i => rgt row (1 + (i : Int))
theorem mem_pos {row : List Int} {n : Int} {i : Nat} : i ∈ posL row n ↔ i < row.length ∧ row.getD i 0 = n := by
  unfold posL
  rw [List.mem_filter, List.mem_range, decide_eq_true_eq]
theorem pos_sorted (row : List Int) (n : Int) : (posL row n).Pairwise (· < ·) := by
  unfold posL
  exact List.Pairwise.filter _ List.pairwise_lt_range
theorem rng_get (row : List Int) : (List.range row.length).map (fun i => row.getD i 0) = row := by
  refine List.ext_getElem? fun i => ?_
  rw [List.getElem?_map]
  by_cases h : i < row.length
  · rw [List.getElem?_eq_getElem (by rw [List.length_range]; exact h), List.getElem?_eq_getElem h, List.getElem_range]
    show some (row.getD i 0) = _
    rw [List.getD_eq_getElem?_getD]
    simp [h]
  · rw [List.getElem?_eq_none (by rw [List.length_range]; omega), List.getElem?_eq_none (by omega)]
    rfl
theorem count_pos (row : List Int) (n : Int) : row.count n = (posL row n).length := by
  have e : row.count n = ((List.range row.length).map (fun i => row.getD i 0)).count n := by rw [rng_get]
  rw [e, List.count_eq_countP, List.countP_map, List.countP_eq_length_filter]
  unfold posL
  congr 1
theorem pair_of {row : List Int} {n : Int} (h : (posL row n).length = 2) : ∃ a b : Nat, posL row n = [a, b] ∧ a < b := by
  have s := pos_sorted row n
  match e : posL row n, h with
  | [a, b], _ =>
    rw [e] at s
    exact ⟨a, b, rfl, (List.pairwise_cons.mp s).1 b List.mem_cons_self⟩
theorem rgt_no {row : List Int} {n : Int} (h : (posL row n).length ≠ 2) : rgt row n = false := by
  unfold rgt
  split
  · rename_i e
    rw [e] at h
    exact absurd rfl h
  · rfl
theorem rgt_two {row : List Int} {n : Int} {a b : Nat} (h : posL row n = [a, b]) : rgt row n = decide ((b : Int) - (a : Int) = n) := by
  unfold rgt
  rw [h]
/-- the second place by the first one -/
theorem rgt_at {row : List Int} {n : Int} {a b : Nat} (h : posL row n = [a, b]) (hab : a < b) (h1 : 1 ≤ n) : (decide ((a : Int) + n < row.length) && decide (row.getD ((a : Int) + n).toNat 0 = n)) = rgt row n := by
  rw [rgt_two h]
  have hb : b ∈ posL row n := by rw [h]; exact List.mem_cons_of_mem _ List.mem_cons_self
  obtain ⟨hb1, hb2⟩ := mem_pos.mp hb
  by_cases e : (b : Int) - (a : Int) = n
  · have e2 : ((a : Int) + n).toNat = b := by omega
    rw [e2, decide_eq_true (show (a : Int) + n < row.length by omega), decide_eq_true hb2, decide_eq_true e]
    rfl
  · rw [decide_eq_false e]
    by_cases z : (a : Int) + n < row.length
    · have nz : ¬ row.getD ((a : Int) + n).toNat 0 = n := fun y => by
        have m : ((a : Int) + n).toNat ∈ posL row n := mem_pos.mpr ⟨by omega, y⟩
        rw [h] at m
        rcases List.mem_cons.mp m with q | m
        · omega
        rcases List.mem_cons.mp m with q | m
        · omega
        · cases m
      rw [decide_eq_false nz, Bool.and_false]
    · rw [decide_eq_false z, Bool.false_and]
theorem pos_first {row : List Int} {n : Int} {a b : Nat} (h : posL row n = [a, b]) (hab : a < b) : row[a]? = some n ∧ ∀ m z, m < a → row[m]? = some z → z ≠ n := by
  have ha : a ∈ posL row n := by rw [h]; exact List.mem_cons_self
  obtain ⟨h1, h2⟩ := mem_pos.mp ha
  refine ⟨?_, fun m z hm hz e => ?_⟩
  · rw [List.getElem?_eq_getElem h1]
    rw [List.getD_eq_getElem?_getD, List.getElem?_eq_getElem h1] at h2
    exact congrArg some h2
  · have mm : m ∈ posL row n := mem_pos.mpr ⟨by omega, by rw [List.getD_eq_getElem?_getD, hz]; exact e⟩
    rw [h] at mm
    rcases List.mem_cons.mp mm with q | mm
    · omega
    rcases List.mem_cons.mp mm with q | mm
    · omega
    · cases mm
/-- the told row -/
def rowL (l : Int) : List Int := (List.range (2 * l).toNat).map fun (j : Nat) => num l j
theorem rowL_len (l : Int) : (rowL l).length = (2 * l).toNat := by
  unfold rowL
  rw [List.length_map, List.length_range]
theorem rowL_get {l : Int} {j : Nat} (h : j < (2 * l).toNat) : (rowL l).getD j 0 = num l j := by
  unfold rowL
  rw [List.getD_eq_getElem?_getD, List.getElem?_map, List.getElem?_eq_getElem (by rw [List.length_range]; exact h), List.getElem_range]
  rfl
theorem rowL_pos {l n : Int} (hl : Can l) (h1 : 1 ≤ n) (h2 : n ≤ l) : posL (rowL l) n = [(fst l n).toNat, (fst l n + n).toNat] := by
  have fr := fst_rng hl h1 h2
  have mem : ∀ i, i ∈ posL (rowL l) n ↔ i = (fst l n).toNat ∨ i = (fst l n + n).toNat := fun i => by
    rw [mem_pos, rowL_len]
    constructor
    · rintro ⟨a, b⟩
      rw [rowL_get a] at b
      have q := at_num hl (show 0 ≤ (i : Int) by omega) (show (i : Int) < 2 * l by omega)
      rw [b] at q
      rcases q.2 with z | z <;> omega
    · rintro (e | e)
      · have hi : i < (2 * l).toNat := by omega
        refine ⟨hi, ?_⟩
        rw [rowL_get hi]
        exact num_at hl ⟨⟨h1, h2⟩, .inl (by omega)⟩
      · have hi : i < (2 * l).toNat := by omega
        refine ⟨hi, ?_⟩
        rw [rowL_get hi]
        exact num_at hl ⟨⟨h1, h2⟩, .inr (by omega)⟩
  have s := pos_sorted (rowL l) n
  have nd : (posL (rowL l) n).Nodup := s.imp fun h => Nat.ne_of_lt h
  have ab : (fst l n).toNat < (fst l n + n).toNat := by omega
  generalize posL (rowL l) n = xs at *
  generalize (fst l n).toNat = a at *
  generalize (fst l n + n).toNat = b at *
  have nd2 : ([a, b] : List Nat).Nodup := by
    refine List.nodup_cons.mpr ⟨fun h => ?_, List.nodup_cons.mpr ⟨fun h => (nomatch h), List.nodup_nil⟩⟩
    rcases List.mem_cons.mp h with q | h
    · omega
    · cases h
  have p : xs.Perm [a, b] := (List.perm_ext_iff_of_nodup nd nd2).mpr fun i => by
    rw [mem i]
    simp
  have len := p.length_eq
  match xs, len with
  | [c, d], _ =>
    have cd := (List.pairwise_cons.mp s).1 d List.mem_cons_self
    have hc := (mem c).mp List.mem_cons_self
    have hd := (mem d).mp (List.mem_cons_of_mem _ List.mem_cons_self)
    have e1 : c = a := by omega
    have e2 : d = b := by omega
    rw [e1, e2]
theorem rowL_rgt {l n : Int} (hl : Can l) (h1 : 1 ≤ n) (h2 : n ≤ l) : rgt (rowL l) n = true := by
  have fr := fst_rng hl h1 h2
  rw [rgt_two (rowL_pos hl h1 h2)]
  refine decide_eq_true ?_
  omega
theorem good_iff {row : List Int} : good row = true ↔ ∀ n : Int, 1 ≤ n → n ≤ ((row.length / 2 : Nat) : Int) → rgt row n = true := by
  unfold good
  rw [List.all_eq_true]
  constructor
  · intro h n h1 h2
    have := h (n - 1).toNat (List.mem_range.mpr (by omega))
    rw [show 1 + (((n - 1).toNat : Nat) : Int) = n by omega] at this
    exact this
  · intro h i hi
    exact h _ (by omega) (by have := List.mem_range.mp hi; omega)
theorem rowL_good {l : Int} (hl : Can l) : good (rowL l) = true := good_iff.mpr fun n h1 h2 => rowL_rgt hl h1 (by rw [rowL_len] at h2; omega)
/-! from the end on -/
theorem pos_two {row : List Int} {n : Int} {a b : Nat} (ab : a < b) (mem : ∀ i, i ∈ posL row n ↔ i = a ∨ i = b) : posL row n = [a, b] := by
  have s := pos_sorted row n
  have nd : (posL row n).Nodup := s.imp fun h => Nat.ne_of_lt h
  generalize posL row n = xs at *
  have nd2 : ([a, b] : List Nat).Nodup := by
    refine List.nodup_cons.mpr ⟨fun h => ?_, List.nodup_cons.mpr ⟨fun h => (nomatch h), List.nodup_nil⟩⟩
    rcases List.mem_cons.mp h with q | h
    · omega
    · cases h
  have p : xs.Perm [a, b] := (List.perm_ext_iff_of_nodup nd nd2).mpr fun i => by
    rw [mem i]
    simp
  have len := p.length_eq
  match xs, len with
  | [c, d], _ =>
    have cd := (List.pairwise_cons.mp s).1 d List.mem_cons_self
    have hc := (mem c).mp List.mem_cons_self
    have hd := (mem d).mp (List.mem_cons_of_mem _ List.mem_cons_self)
    have e1 : c = a := by omega
    have e2 : d = b := by omega
    rw [e1, e2]
theorem rev_get {row : List Int} {i : Nat} (h : i < row.length) : row.reverse.getD i 0 = row.getD (row.length - 1 - i) 0 := by
  rw [List.getD_eq_getElem?_getD, List.getD_eq_getElem?_getD, List.getElem?_reverse h]
theorem rgt_rev_of {row : List Int} {n : Int} (h : rgt row n = true) : rgt row.reverse n = true := by
  by_cases hc : (posL row n).length = 2
  · obtain ⟨a, b, hp, hab⟩ := pair_of hc
    rw [rgt_two hp] at h
    have h := of_decide_eq_true h
    have hb : b ∈ posL row n := by rw [hp]; exact List.mem_cons_of_mem _ List.mem_cons_self
    have lb := (mem_pos.mp hb).1
    have q : posL row.reverse n = [row.length - 1 - b, row.length - 1 - a] := by
      refine pos_two (by omega) fun i => ?_
      rw [mem_pos, List.length_reverse]
      constructor
      · rintro ⟨h1, h2⟩
        rw [rev_get h1] at h2
        have m : row.length - 1 - i ∈ posL row n := mem_pos.mpr ⟨by omega, h2⟩
        rw [hp] at m
        rcases List.mem_cons.mp m with z | m
        · exact .inr (by omega)
        rcases List.mem_cons.mp m with z | m
        · exact .inl (by omega)
        · cases m
      · intro z
        have hi : i < row.length := by omega
        refine ⟨hi, ?_⟩
        rw [rev_get hi]
        have m : row.length - 1 - i ∈ posL row n := by
          rw [hp]
          rcases z with z | z
          · exact List.mem_cons_of_mem _ (List.mem_cons.mpr (.inl (by omega)))
          · exact List.mem_cons.mpr (.inl (by omega))
        exact (mem_pos.mp m).2
    rw [rgt_two q]
    refine decide_eq_true ?_
    omega
  · rw [rgt_no hc] at h
    cases h
theorem rgt_rev (row : List Int) (n : Int) : rgt row.reverse n = rgt row n := by
  cases h : rgt row n with
  | true => exact rgt_rev_of h
  | false =>
    cases h2 : rgt row.reverse n with
    | false => rfl
    | true =>
      have := rgt_rev_of h2
      rw [List.reverse_reverse, h] at this
      cases this
theorem good_rev (row : List Int) : good row.reverse = good row := by
  unfold good
  rw [List.length_reverse]
  congr 1
  funext i
  exact rgt_rev row _
/-- the first number that doesn't stand right -/
def offN (row : List Int) : Int := 1 + (((List.range (row.length / 2)).findIdx fun (i : Nat) => !rgt row (1 + (i : Int)) : Nat) : Int)
theorem offN_at {row : List Int} {i : Nat} (hi : i < row.length / 2) (h : rgt row (1 + (i : Int)) = false) (hb : ∀ j : Nat, j < i → rgt row (1 + (j : Int)) = true) : offN row = 1 + (i : Int) ∧ good row = false := by
  constructor
  · unfold offN
    have e : (List.range (row.length / 2)).findIdx (fun (i : Nat) => !rgt row (1 + (i : Int))) = i := by
      rw [List.findIdx_eq (by rw [List.length_range]; exact hi)]
      refine ⟨by rw [List.getElem_range, h]; rfl, fun j hj => ?_⟩
      rw [List.getElem_range, hb j hj]
      rfl
    rw [e]
  · unfold good
    exact List.all_eq_false.mpr ⟨i, List.mem_range.mpr hi, by rw [h]; decide⟩
theorem offN_bad {row : List Int} (h : good row = false) : 1 ≤ offN row ∧ offN row ≤ ((row.length / 2 : Nat) : Int) ∧ rgt row (offN row) = false := by
  unfold good at h
  obtain ⟨i, hi, hr⟩ := List.all_eq_false.mp h
  have lt : (List.range (row.length / 2)).findIdx (fun (i : Nat) => !rgt row (1 + (i : Int))) < (List.range (row.length / 2)).length := List.findIdx_lt_length_of_exists ⟨i, hi, by simpa using hr⟩
  have g := List.findIdx_getElem (w := lt)
  rw [List.getElem_range] at g
  rw [List.length_range] at lt
  unfold offN
  exact ⟨by omega, by omega, by simpa using g⟩
end PA

set_option Elab.async false
set_option linter.all false
set_option maxRecDepth 100000
set_option maxHeartbeats 4000000
namespace PA
open PySem PySem.Spec PyProof.Rows L2 Evl
/-! ### isinstance of the error that a suite holds, of whatever own class -/
def rIsG (K : PySem.W.Frag) (cls : Value) (d : Option Addr) (a : Addr) : List V → Hp → VK → Prop := fun xs H Q => ∃ D : Addr, cls = .ref D ∧ d = none ∧ ExcC K D ∧ rIsE K D a xs H Q
theorem call_isG {X : Cx} {a : Addr} {cls : Value} {d : Option Addr} {oe : Obj} {pn : List (Addr × Obj)} (hz : Zc cls d oe) (hf : ∃ vs, oe.data = .fields vs) : CallR (X.suite a ((a, oe) :: pn)) (.builtin "isinstance") (rIsG X.K cls d a) := by
  intro pins s σ H xs us Q I r h
  obtain ⟨D, rfl, rfl, C, h⟩ := h
  exact call_isE C hz hf pins s σ H xs us Q I r h
section
variable {K : PySem.W.Frag} {σ : L2.St} {H H' : Hp} {ta tb te tx tc : TE} {t u : TT} {x y z v : V} {D : Ends} {tu tw tz : TS} {g : TG} {r r' : R2} {P : V → Hp → Prop}
theorem ev_isG {C a : Addr} {c : V} {cv : Value} {b : Bool} (hC : ExcC K C) (ha : Ev ta σ H (.ref a)) (hb : Ev tb σ H c) (hc : ∀ u, RelV c u → u = cv) (hk : PySem.W.kitOne K (.ref C) cv = some b) : Ev (tCB (rIsG K (.ref C) none a) (tCons ta (tCons tb tNil))) σ H (.bl b) :=
  ev_cb (ea_cons ha (ea_cons hb ea_nil)) fun H1 _ _ q => ⟨C, rfl, rfl, hC, c, cv, b, rfl, hc, hk, q H1 (Ex.refl H1)⟩
/-! ### a call that raises -/
theorem x_call {sp : Sp} {dvs vs : List V} {E : XK} {ta : TA} {Q : VK} (h : EvA ta σ H vs) (hs : ∀ H1, Ex H H1 → sp (vs ++ dvs) H1 Q E) : tCall sp dvs E ta σ H Q := h H (Ex.refl H) _ fun H1 e => hs H1 e
theorem x_callS {sp : Sp} {vs : List V} {E : L2.St → XK} {ta : TA} {Q : VK} (h : EvA ta σ H vs) (hs : ∀ H1, Ex H H1 → sp vs H1 Q (E σ)) : tCallS sp E ta σ H Q := h H (Ex.refl H) _ fun H1 e => hs H1 e
theorem x_callS1 {sp : Sp} {E : L2.St → XK} {Q : VK} (h : EvQ ta σ H P) (hs : ∀ v H1, Ex H H1 → P v H1 → sp [v] H1 Q (E σ)) : tCallS sp E (tCons ta tNil) σ H Q := h H (Ex.refl H) _ fun v H1 e hv => hs v H1 e hv
theorem x_callS2 {sp : Sp} {E : L2.St → XK} {Q : VK} (ha : Ev ta σ H x) (h : EvQ tb σ H P) (hs : ∀ v H1, Ex H H1 → P v H1 → sp [x, v] H1 Q (E σ)) : tCallS sp E (tCons ta (tCons tb tNil)) σ H Q := ha H (Ex.refl H) _ fun H1 e => h H1 e _ fun v H2 e2 hv => hs v H2 (e.trans e2) hv
theorem x_if {b : Bool} {Q : VK} (h : EvT t σ H b) (h1 : b = true → ∀ H1, Ex H H1 → ta σ H1 Q) (h2 : b = false → ∀ H1, Ex H H1 → tb σ H1 Q) : tIf t ta tb σ H Q := h H (Ex.refl H) _ fun H1 e => by
  cases b with
  | true => exact h1 rfl H1 e
  | false => exact h2 rfl H1 e
/-! ### displays of values of many kinds: of the i-th one P i holds -/
def EvAI (ta : TA) (σ : L2.St) (H : Hp) (P : Nat → V → Hp → Prop) (n : Nat) : Prop := ∀ H1, Ex H H1 → ∀ Q : List V → Hp → Prop, (∀ vs H2, Ex H1 H2 → vs.length = n → (∀ i v, vs[i]? = some v → P i v H2) → Q vs H2) → ta σ H1 Q
theorem eai_nil {P : Nat → V → Hp → Prop} : EvAI tNil σ H P 0 := fun H1 _ _ q => q [] H1 (Ex.refl H1) rfl fun _ _ h => nomatch h
theorem eai_cons {P : Nat → V → Hp → Prop} {tr : TA} {n : Nat} (st : Stab (P 0)) (h : EvQ ta σ H (P 0)) (hr : EvAI tr σ H (fun i => P (i + 1)) n) : EvAI (tCons ta tr) σ H P (n + 1) := fun H1 e _ q =>
  h H1 e _ fun x H2 e2 hx => hr H2 (e.trans e2) _ fun vs H3 e3 hl hv => q (x :: vs) H3 (e2.trans e3) (by rw [List.length_cons, hl]) fun i v hi => by
    cases i with
    | zero =>
      obtain rfl : x = v := Option.some.inj hi
      exact st _ _ _ e3 hx
    | succ i => exact hv i v hi
/-- a new list, of the i-th item of which P i holds -/
def EvLI (te : TE) (σ : L2.St) (H : Hp) (P : Nat → V → Hp → Prop) (n : Nat) : Prop := ∀ H1, Ex H H1 → ∀ Q : VK, (∀ vs p H2, H1 p = none → Ex H1 H2 → H2 p = some (.lst vs) → vs.length = n → (∀ i v, vs[i]? = some v → P i v H2) → Q (.ref p) H2) → te σ H1 Q
theorem eli_lst {P : Nat → V → Hp → Prop} {ta : TA} {n : Nat} (st : ∀ i, Stab (P i)) (h : EvAI ta σ H P n) (hn : n ≤ 100000) : EvLI (tLst ta) σ H P n := fun H1 e Q q =>
  h H1 e _ fun vs H2 e2 hl hv => ⟨sz_of (by omega), fun p hp => q vs p _ (fresh_back e2 hp) (e2.trans (Ex.new hp)) upd_same hl fun i v hi => st i _ _ _ (Ex.new hp) (hv i v hi)⟩
theorem q_asgLI {P : Nat → V → Hp → Prop} {n i : Nat} (h : EvLI te σ H P n) (k : ∀ vs p H1, H p = none → Ex H H1 → H1 p = some (.lst vs) → vs.length = n → (∀ i v, vs[i]? = some v → P i v H1) → tz D (σ.set i (some (.ref p))) H1) : tSeq (tAsg te (gName i)) tz D σ H := h H (Ex.refl H) _ k
theorem eq_lst {P' : V → Hp → Prop} {xs : List V} (h : EvL te σ H xs) (hp : ∀ p H1, H1 p = some (.lst xs) → P' (.ref p) H1) : EvQ te σ H P' := fun H1 e _ q => h H1 e _ fun p H2 _ e2 h2 => q _ H2 e2 (hp p H2 h2)
theorem eq_tup {P' : V → Hp → Prop} {xs : List V} (h : EvU te σ H xs) (hp : ∀ p H1, H1 p = some (.tup xs) → P' (.ref p) H1) : EvQ te σ H P' := fun H1 e _ q => h H1 e _ fun p H2 _ e2 h2 => q _ H2 e2 (hp p H2 h2)
theorem eq_dnew {P' : V → Hp → Prop} (hp : ∀ p H1, H1 p = some (.dK []) → P' (.ref p) H1) : EvQ tDNewK σ H P' := fun H1 e _ q p hn => q _ _ (Ex.new hn) (hp p _ upd_same)
/-- an item of a new list -/
theorem eq_ix {P : Nat → V → Hp → Prop} {P' : V → Hp → Prop} {n : Nat} {j : Int} (st : ∀ i, Stab (P i)) (h : EvLI te σ H P n) (hj : ∀ H1, Ev tb σ H1 (.int j)) (h0 : 0 ≤ j) (h1 : j < n) (hp : ∀ v H1, P j.toNat v H1 → P' v H1) : EvQ (tOp (rIxL K) te tb) σ H P' := fun H1 e Q q =>
  h H1 e _ fun vs p H2 _ e2 h2 hl hv => hj H2 H2 (Ex.refl _) _ fun H3 e3 => by
    have hlt : j.toNat < vs.length := by omega
    refine ⟨p, vs, j, vs[j.toNat], rfl, rfl, sq_of (e3 _ _ h2), at_of (j := j.toNat) (by omega) (List.getElem?_eq_getElem hlt), q _ H3 (e2.trans e3) (hp _ _ (st _ _ _ _ e3 (hv _ _ (List.getElem?_eq_getElem hlt))))⟩
/-- an item of a list in a slot -/
theorem eq_ixV {P' : V → Hp → Prop} {a : Addr} {vs : List V} {j : Int} (ha : Ev te σ H (.ref a)) (hs : SqL K H a vs) (hj : ∀ H1, Ev tb σ H1 (.int j)) (h0 : 0 ≤ j) (h1 : j < vs.length) (hp : ∀ v, vs[j.toNat]? = some v → ∀ H1, Ex H H1 → P' v H1) : EvQ (tOp (rIxL K) te tb) σ H P' := fun H1 e Q q =>
  ha H1 e _ fun H2 e2 => hj H2 H2 (Ex.refl _) _ fun H3 e3 => by
    have hlt : j.toNat < vs.length := by omega
    have e13 := (e.trans e2).trans e3
    exact ⟨a, vs, j, vs[j.toNat], rfl, rfl, ex_l e13 hs, at_of (j := j.toNat) (by omega) (List.getElem?_eq_getElem hlt), q _ H3 (e2.trans e3) (hp _ (List.getElem?_eq_getElem hlt) H3 e13)⟩
/-- a list, new or not, of the i-th item of which P i holds -/
def EvLJ (te : TE) (σ : L2.St) (H : Hp) (P : Nat → V → Hp → Prop) (n : Nat) : Prop := ∀ H1, Ex H H1 → ∀ Q : VK, (∀ vs p H2, Ex H1 H2 → H2 p = some (.lst vs) → vs.length = n → (∀ i v, vs[i]? = some v → P i v H2) → Q (.ref p) H2) → te σ H1 Q
theorem elj_new {P : Nat → V → Hp → Prop} {n : Nat} (h : EvLI te σ H P n) : EvLJ te σ H P n := fun H1 e Q q => h H1 e Q fun vs p H2 _ e2 h2 hl hv => q vs p H2 e2 h2 hl hv
theorem elj_old {P : Nat → V → Hp → Prop} {a : Addr} {vs : List V} (st : ∀ i, Stab (P i)) (ha : Ev te σ H (.ref a)) (hs : H a = some (.lst vs)) (hv : ∀ i v, vs[i]? = some v → P i v H) : EvLJ te σ H P vs.length := fun H1 e Q q =>
  ha H1 e _ fun H2 e2 => q vs a H2 e2 ((e.trans e2) _ _ hs) rfl fun i v hi => st _ _ _ _ (e.trans e2) (hv i v hi)
theorem eli_cat {P P' P2 : Nat → V → Hp → Prop} {m n : Nat} (st : ∀ i, Stab (P i)) (st' : ∀ i, Stab (P' i)) (ha : EvLJ ta σ H P m) (hb : EvLJ tb σ H P' n) (hn : m + n ≤ 100000) (h1 : ∀ i v H1, i < m → P i v H1 → P2 i v H1) (h2 : ∀ i v H1, P' i v H1 → P2 (m + i) v H1) : EvLI (tOp rCat ta tb) σ H P2 (m + n) := fun H1 e Q q =>
  ha H1 e _ fun vs p1 H2 e2 hp1 hl1 hv => hb H2 (e.trans e2) _ fun ws p H3 e3 h3 hl hw => ⟨p1, p, vs, ws, rfl, rfl, e3 _ _ hp1, h3, sz_of (by omega), fun r hr =>
    q (vs ++ ws) r _ (fresh_back (e2.trans e3) hr) ((e2.trans e3).trans (Ex.new hr)) upd_same (by rw [List.length_append, hl, hl1]) fun i v hi => by
      by_cases hlt : i < vs.length
      · rw [List.getElem?_append_left hlt] at hi
        exact h1 _ _ _ (by omega) (st _ _ _ _ (e3.trans (Ex.new hr)) (hv i v hi))
      · rw [List.getElem?_append_right (by omega)] at hi
        have z : P2 (m + (i - vs.length)) v (upd H3 r (.lst (vs ++ ws))) := h2 _ _ _ (st' _ _ _ _ (Ex.new hr) (hw _ _ hi))
        rwa [show m + (i - vs.length) = i by omega] at z⟩
/-- the first k items, the items from k on -/
theorem eli_take {P : Nat → V → Hp → Prop} {vs : List V} {k : Nat} {tlo thi : TO} (st : ∀ i, Stab (P i)) (h : EvL (tSl (rSlL K) te tlo thi) σ H (vs.take k)) (hk : k ≤ vs.length) (hv : ∀ i v, vs[i]? = some v → P i v H) : EvLI (tSl (rSlL K) te tlo thi) σ H P k := fun H1 e Q q =>
  h H1 e _ fun p H2 hp e2 h2 => q _ p H2 hp e2 h2 (by rw [List.length_take]; omega) fun i v hi => by
    rw [List.getElem?_take] at hi
    split at hi
    · exact st _ _ _ _ (e.trans e2) (hv i v hi)
    · cases hi
theorem eli_drop {P : Nat → V → Hp → Prop} {vs : List V} {k : Nat} {tlo thi : TO} (st : ∀ i, Stab (P i)) (h : EvL (tSl (rSlL K) te tlo thi) σ H (vs.drop k)) (hk : k ≤ vs.length) (hv : ∀ i v, vs[i]? = some v → P i v H) : EvLI (tSl (rSlL K) te tlo thi) σ H (fun i => P (k + i)) (vs.length - k) := fun H1 e Q q =>
  h H1 e _ fun p H2 hp e2 h2 => q _ p H2 hp e2 h2 (by rw [List.length_drop]) fun i v hi => by
    rw [List.getElem?_drop] at hi
    exact st _ _ _ _ (e.trans e2) (hv _ v hi)
/-- a[j] = what has P -/
theorem q_setQ {l : Addr} {xs : List V} {j : Nat} {P : V → Hp → Prop} (hl : H l = some (.lst xs)) (h : EvQ te σ H P) (ho : ∀ H1, Ex H H1 → Ev ta σ H1 (.ref l)) (hi : ∀ H1, Ex H H1 → Ev tb σ H1 (.int (j : Int))) (hj : j < xs.length) (k : ∀ v H0 H1, Ex H H0 → Ex H0 H1 → P v H0 → tz D σ (upd H1 l (.lst (xs.set j v)))) :
    tSeq (tAsg te (gSub ta tb rSetL)) tz D σ H := h H (Ex.refl H) _ fun v H1 e1 hv => ho H1 e1 _ (Ex.refl _) _ fun H2 e2 => hi H2 (e1.trans e2) _ (Ex.refl _) _ fun H3 e3 =>
  ⟨l, xs, (j : Int), j, rfl, rfl, ((e1.trans e2).trans e3) l _ hl, ixN_nat hj, k v H1 H3 e1 (e2.trans e3) hv⟩
theorem ei_if {b : Bool} {C : Addr} {fs : List (Str × V)} (h : EvT t σ H b) (h1 : b = true → EvI ta σ H C fs) (h2 : b = false → EvI tb σ H C fs) : EvI (tIf t ta tb) σ H C fs := fun H1 e Q q => h H1 e _ fun H2 e2 => by
  have k : ∀ te, EvI te σ H C fs → te σ H2 Q := fun te ht => ht H2 (e.trans e2) _ fun p dx H3 hp e3 h3 => q p dx H3 (fresh_back e2 hp) (e2.trans e3) h3
  cases b with
  | true => exact k _ (h1 rfl)
  | false => exact k _ (h2 rfl)
end
/-! ### lists of truths compared -/
theorem eqvAll_bools : ∀ ns ms : List Bool, PyData.eqvAll (ns.map PyData.bool) (ms.map PyData.bool) = decide (ns = ms)
  | [], [] => by simp [PyData.eqvAll]
  | [], _ :: _ => by simp [PyData.eqvAll]
  | _ :: _, [] => by simp [PyData.eqvAll]
  | n :: ns, m :: ms => by
    rw [List.map_cons, List.map_cons]
    show (PyData.eqv (.bool n) (.bool m) && PyData.eqvAll _ _) = _
    rw [eqvAll_bools ns ms]
    cases n <;> cases m <;> simp [PyData.eqv]
theorem canAll_bools : ∀ ns : List Bool, PyData.canLayAll0 (ns.map PyData.bool) = true
  | [] => rfl
  | _ :: r => by
    rw [List.map_cons]
    show (PyData.canLay0 (.bool _) && PyData.canLayAll0 _) = true
    rw [canAll_bools r]
    rfl
theorem depAll_bools : ∀ ns : List Bool, PyData.depthAll (ns.map PyData.bool) = 0
  | [] => rfl
  | _ :: r => by
    rw [List.map_cons]
    show max (PyData.depth (.bool _)) (PyData.depthAll _) = 0
    rw [depAll_bools r]
    rfl
theorem shp_bools (ns : List Bool) : SeqAt.shaped (.list (ns.map PyData.bool)) = true := by
  show (PyData.canLayAll0 _ && decide (PyData.depthAll _ + 1 ≤ 64)) = true
  rw [canAll_bools, depAll_bools]
  rfl
theorem dpAll_bools {K : PySem.W.Frag} {H : Hp} : ∀ ns : List Bool, DpAll K H (ns.map V.bl) (ns.map PyData.bool)
  | [] => .nil
  | n :: r => .cons (.bl n) (dpAll_bools r)
theorem rv_neB {K : PySem.W.Frag} {H : Hp} {a b : Addr} {ns ms : List Bool} (ha : SqL K H a (ns.map V.bl)) (hb : SqL K H b (ms.map V.bl)) : RV (rNeD K) (.ref a) (.ref b) H (.bl (!decide (ns = ms))) := fun H1 e Q q =>
  ⟨_, _, .lst (ex_l e ha) (dpAll_bools ns), .lst (ex_l e hb) (dpAll_bools ms), shp_bools _, shp_bools _, by
    rw [show PyData.eqv (.list (ns.map PyData.bool)) (.list (ms.map PyData.bool)) = decide (ns = ms) from eqvAll_bools ns ms]
    exact q H1 (Ex.refl H1)⟩
end PA

set_option Elab.async false
set_option linter.all false
set_option maxRecDepth 100000
set_option maxHeartbeats 4000000
namespace PA
open PySem PySem.Spec PyProof.Rows L2 Evl
/-! ### errors whose context is None: the words of HandS.WordsExc for L2N -/
theorem passLN {X : Cx} : Passes (L2N.CX X.prog X.w) X E0 := fun _ _ _ _ _ _ _ h => by
  obtain ⟨_, _, _, _, _, _, _, _, _, _, _, _, z⟩ := h
  exact z.elim
theorem takes0N {X : Cx} : L2N.Takes X (fun _ _ _ _ => False) := fun _ _ x => by
  obtain ⟨_, _, _, _, _, _, _, _, _, _, _, _, _, _, _, _, z⟩ := x
  exact z.elim
theorem okXN {P : Program} {w : World} {K : PySem.W.Frag} {mg : Str → Option Value} {base : Heap} {x qual : Str} {st : Stmt} {f : Addr} {fd : FuncData} {N ps : List Str} {k : Nat} {sp : Sp} (F : Fun K x qual st f fd) (S : FnScope N ps (defScope st)) (len : ∀ vs H Q E, sp vs H Q E → vs.length = ps.length)
    (hbody : ∀ (cdv : Value) (A : Around) (outer : List Env) (s : Shared) (H : Hp) (vs : List V) (Q : VK) (E : XK), Room k (A.deeper (envOfC qual (defScope st) s.heap.objs.size f cdv)) → sp vs H Q E →
      ∃ t, PSs (cxOf (L2N.CX P w) P w K mg base N qual (defScope st) f cdv A outer s H E) (defBody st) t ∧ t { nx := fun _ H' => Q .non H', rt := Q } (start N vs) H) : FnOk P w K mg base (L2N.CX P w) (k + 1) f fd ps sp := by
  obtain ⟨oc, od, kV, doc, pm, an, cdv, ct, osl, rfl, lk, hcd⟩ := F.ex
  exact fn_of lk hcd S len fun A outer s H vs Q E hr hsp => hbody cdv A outer s H vs Q E hr hsp
/-! ### the end of a list, while an error is handled -/
section
variable {prog : Program} {w : World} {A : Around} {E : Value → Shared → Prop} {s : Shared}
theorem pyNext_list_end_hot {it l x1 : Addr} {i : Nat} {items : Array Value} {Q : Option Value → Shared → Prop} (hot : HotX.HotAt A x1 s.heap) (hx1 : x1 ≠ it) (hit : s.heap.IsListIter it l i) (hl : s.heap.IsList l items) (hx : items[i]? = none)
    (hQ : ∀ h', (∀ b o, b ≠ it → s.heap.get? b = some o → h'.get? b = some o) → Q none { s with heap := h' }) : wpAny (model prog w) A (pyNext (.ref it)) Q E s := by
  obtain ⟨o, ho, hc, hd⟩ := id hit
  obtain ⟨ol, hol, _, nl, hdl⟩ := hl
  obtain ⟨hh, o1, vs1, h1, d1, c1⟩ := hot
  unfold pyNext
  refine wpAny_bind (wpAny_attempt (wpAny_callSpecial?_slot (name := Str.ofString "__next__") hit.typeIs slot_listiter_next
    (wpAny_call_entry slot_listiter_next hit.typeIs entry_listiter_next ?_ (args_listiter_next _))))
  show wpAny _ _ (field (.ref it) 0 >>= _) _ _ s
  refine wpAny_bind (wpAny_field ho hd (x := .ref l) rfl ?_)
  show wpAny _ _ (if (Value.ref l == Value.none) = true then _ else _) _ _ s
  rw [if_neg (show ¬ ((Value.ref l == Value.none) = true) from Bool.false_ne_true)]
  show wpAny _ _ (field (.ref it) 1 >>= _) _ _ s
  refine wpAny_bind (wpAny_field ho hd (x := .int i 0) rfl ?_)
  show wpAny _ _ (seqItems? (.ref l) >>= _) _ _ s
  refine wpAny_bind (wpAny_seqItems hol hdl ?_)
  simp only [Int.toNat_natCast, hx]
  refine wpAny_bind (wpAny_rule (wpAny_bind (wpAny_setField ho hd (by simp) ?_)))
  show wpAny _ _ (newExc (.type "StopIteration") [] >>= _) _ _ _
  refine wpAny_bind ?_
  simp only [newExc, newTuple]
  refine wpAny_bind (wpAny_newObj_type ?_ (by size_fits))
  refine wpAny_bind (m := firstArgMember _ _) (wpAny_of_eq (a := Value.none) (by first | rfl | (simp only [firstArgMember]; rfl)) ?_)
  refine wpAny_newObj_type ?_ (by size_fits)
  have k1 : ∀ b ob, b ≠ it → s.heap.get? b = some ob → (s.heap.update it (Obj.mapFields (·.setIfInBounds 0 Value.none))).get? b = some ob := fun b ob hb e => (Heap.get?_update_other _ _ (Ne.symm hb)).trans e
  have h1' := k1 _ _ hx1 h1
  refine HotX.raiseNew_hot ⟨hh, o1, vs1, Heap.get?_push_of_some _ (Heap.get?_push_of_some _ h1'), d1, c1⟩ (Nat.ne_of_lt (Heap.lt_size (Heap.get?_push_of_some _ h1'))) (Heap.get?_push_size _ rfl) rfl (by first | (simp; done) | (simp; omega) | (simp only [Array.size_append]; simp; omega)) ?_
  refine wpAny_bind (wpAny_isInstance (T := "StopIteration") (b := true) ⟨_, Heap.get?_update_self _ (Heap.get?_push_size _ rfl) rfl, rfl⟩ isSubtype_stop ?_)
  refine wpAny_pure (hQ _ fun b ob hb e => ?_)
  have e' := k1 b ob hb e
  rw [Heap.get?_update_other _ _ (Nat.ne_of_gt (Heap.lt_size (Heap.get?_push_of_some _ e')))]
  exact Heap.get?_push_of_some _ (Heap.get?_push_of_some _ e')
theorem walks_hot (I ax x1 : Addr) (hh : A.handled = some (.ref x1)) (o1 : Obj) (v1 : Array Value) (hd : o1.data = .fields v1) (hc : v1[2]? = some .none) (hne : ax ≠ I) (hx : x1 ≠ I) (items : Array Value) :
    Walks prog w A I [I, ax, x1] [I] items.size (fun i v => items[i]? = some v) (fun i h => h.IsListIter I ax i ∧ h.IsList ax items ∧ h.get? x1 = some o1) where
  sub := fun b hb => by simp at hb; simp [hb]
  frame := fun _ _ _ st hk => ⟨st.1.at fun o e => hk I (by simp) o e, st.2.1.at fun o e => hk ax (by simp) o e, hk x1 (by simp) _ st.2.2⟩
  item := fun i s Q E hi st hQ => by
    refine wpAny_pyNext_list_item st.1 st.2.1 (x := items[i]) (by simp [hi]) fun h' hit' hs' => ?_
    exact hQ _ h' s.toks (by simp [hi]) ⟨hit', st.2.1.extBut hs'.extBut hne, hs'.extBut _ _ hx st.2.2⟩ fun b o hb e => hs'.extBut b o (fun h => hb (by simp [h])) e
  done := fun s Q E st hQ => pyNext_list_end_hot ⟨hh, o1, v1, st.2.2, hd, hc⟩ hx st.1 st.2.1 (by simp) fun h' he' => hQ h' s.toks fun b o hb e => he' b o (fun h => hb (by simp [h])) e
  self := fun _ _ _ _ st hQ => wpAny_pyIter_listiter st.1 hQ
end
/-- any(a list of truths), in a suite -/
theorem cr_anyH {X : Cx} {a : Addr} {cls : Value} {d : Option Addr} {oe : Obj} {pn : List (Addr × Obj)} (hz : L2N.Zn cls d oe) (hf : ∃ vs, oe.data = .fields vs) : CallR (X.suite a ((a, oe) :: pn)) (.builtin "any") (rAny X.K) := by
  intro pins s σ H vs us Q I r h
  obtain ⟨l, bs, rfl, hs, q⟩ := h
  obtain ⟨its, rv, hl, _⟩ := I.list hs
  rw [Vals.ref1 r]
  have hb := rv.bls
  obtain ⟨v1, hv1⟩ := hf
  have hget := (I.pin (a, oe) (List.mem_append.mpr (.inl List.mem_cons_self))).1
  refine call_any_walk (iter_any hl.isList fun s₂ e2 st hne => ?_)
  subst e2
  refine ⟨_, _, _, _, _, _, _, rfl, walks_hot (A := (X.suite a ((a, oe) :: pn)).A.in1) _ l a rfl oe v1 hv1 (hz.2.2 _ hv1) hne (Nat.ne_of_lt (Heap.lt_size hget)) its.toArray, ⟨st.1, st.2, Heap.get?_push_of_some _ hget⟩, truth_bools hb, fun h' tk hk => ?_⟩
  refine ⟨.bl _, H, I.kept fun b o eo => hk b o (fun hmem => ?_) (Heap.get?_push_of_some _ eo), ?_, q⟩
  · rcases List.mem_cons.mp hmem with e1 | hmem
    · exact absurd (e1 ▸ Heap.lt_size eo) (Nat.lt_irrefl _)
    · cases hmem
  · show Value.bool _ = Value.bool _
    rw [← L2.any_range, hb, List.size_toArray, List.length_map]
end PA

set_option Elab.async false
set_option linter.all false
set_option maxRecDepth 100000
set_option maxHeartbeats 4000000
namespace PA
open PySem PySem.Spec PyProof.Rows L2 Evl LamX NdefX
/-! ### a lambda as a value: its words, what it captured, its code object -/
structure LF where
  qual : Str
  params : Arguments
  body : Expr
  scope : Scope
  cl : List (Str × Addr)
  c : Addr
abbrev LF.nf (F : LF) : NF := ⟨"<lambda>", F.qual, F.params, [], F.scope, F.cl, F.c⟩
abbrev LF.fd (F : LF) (pm ctv : Value) : FuncData := PySem.W.kla_fn "<lambda>" F.qual F.params F.body F.scope F.cl pm (.ref F.c) ctv
/-- the object at f is the lambda F -/
def LamO (f : Addr) (F : LF) : HO := .ext fun h => ∃ (od : Option Addr) (sl : Array (Option Value)) (pm ctv : Value), h.get? f = some (⟨.type "function", od, .func (F.fd pm ctv), sl⟩ : Obj)
theorem lamO_at {P : Program} {w : World} {H : Hp} {h : Heap} {f : Addr} {F : LF} (hok : HOk P w H h) (e : H f = some (LamO f F)) : ∃ (od : Option Addr) (sl : Array (Option Value)) (pm ctv : Value), h.get? f = some (⟨.type "function", od, .func (F.fd pm ctv), sl⟩ : Obj) := by
  obtain ⟨z, _, _⟩ := hok f _ e
  exact z
/-- all but what stands at P is kept -/
def ExB (P : Addr) (H H' : Hp) : Prop := ∀ b o, b ≠ P → H b = some o → H' b = some o
theorem ExB.refl (P : Addr) (H : Hp) : ExB P H H := fun _ _ _ h => h
theorem ExB.trans {P : Addr} {H H1 H2 : Hp} (a : ExB P H H1) (b : ExB P H1 H2) : ExB P H H2 := fun c o n h => b c o n (a c o n h)
theorem ExB.of {P : Addr} {H H' : Hp} (e : Ex H H') : ExB P H H' := fun b o _ h => e b o h
theorem tabS_ex {H H' : Hp} {P : Addr} {q : Str} (t : TabS H P q) (e : Ex H H') : TabS H' P q := t.ext e
theorem exB_ne {P : Addr} {H H' : Hp} {a : Addr} {o : HO} {q : Str} (e : ExB P H H') (t : TabS H P q) (h : H a = some o) (n : ∀ ps, o ≠ .tbl ps) : H' a = some o := e a o (fun z => by
  obtain ⟨ps, hP, _⟩ := t
  rw [z, hP] at h
  exact n ps (Option.some.inj h).symm) h
theorem exB_fresh {P : Addr} {H H' : Hp} {q : Str} (e : ExB P H H') (t : TabS H' P q) {a : Addr} (h : H' a = none) : H a = none := by
  cases z : H a with
  | none => rfl
  | some o =>
    by_cases ne : a = P
    · obtain ⟨ps, hP, _⟩ := t
      rw [ne, hP] at h
      cases h
    · rw [e a o ne z] at h
      cases h
section
variable {X : Cx} {pins : List (Addr × Obj)} {σ : L2.St} {H : Hp} {s : Shared}
/-- a lambda just made is known from now on -/
theorem inv_lam {F : LF} {o : Obj} {t' : Nat} {pm ctv : Value} (I : Inv X pins σ H s) (ho : o = { cls := .type "function", data := .func (F.fd pm ctv) }) :
    Inv X pins σ (upd H s.heap.objs.size (LamO s.heap.objs.size F)) { s with heap := s.heap.push o, toks := t' } := by
  subst ho
  refine I.laid (a := s.heap.objs.size) (fun b u e => Heap.get?_push_of_some _ e) (Nat.le_refl _) ?_
  have e : (s.heap.push ({ cls := .type "function", data := .func (F.fd pm ctv) } : Obj)).get? s.heap.objs.size = some ({ cls := .type "function", data := .func (F.fd pm ctv) } : Obj) := Heap.get?_push_size _ rfl
  exact ⟨⟨_, _, pm, ctv, e⟩, ⟨_, e⟩, fun h1 h2 ⟨od, sl, p, t, z⟩ st => ⟨od, sl, p, t, st _ z⟩⟩
/-- the lambda is made: its code object is new, or found in the table -/
theorem lam_makeV {c P : Addr} {q : Str} {params : Arguments} {body : Expr} {scope : Scope} {pos : Pos} {E : Value → Shared → Prop} {Q : Value → Shared → Prop} (I : Inv X pins σ H s) (TB : TabB X.base X.mg c P) (hcode : X.env.code = .ref c)
    (hq : X.env.qual ++ "<lambda>" = q) (hT : TabS H P q) (hdef : defaultsOf params X.env = ([], [])) (hfree : ∀ y ∈ scope.names, y.2 = .free → ∃ c, X.env.cells.lookup y.1 = some c)
    (h : ∀ (f c' : Addr) (H1 : Hp) (s' : Shared), Inv X pins σ H1 s' → ExB P H H1 → TabS H1 P q → H f = none → H1 f = some (LamO f ⟨q, params, body, scope, cloFrom X.env.cells scope.names [], c'⟩) → H1 c' = some (CodeO c' q) → Q (.ref f) s') :
    wpAny (model X.prog X.w) X.A (eval (.Lambda params body scope pos) X.env) Q E s := by
  obtain ⟨ps, hP, ht, ha⟩ := hT
  refine PySem.W.kla_eval hdef ?_
  rw [hq]
  have bP : s.heap.BuiltinsAt X.mg P := TB.bm.keeps I.bk
  have hP' : s.heap.get? P = some { cls := .none, data := .fields ps } := I.hok P _ hP
  cases hc : codeAmong pos ps.toList with
  | none =>
    refine PySem.W.kla_makeFunction (mg := X.mg) (c := c) (P := P) (ps := ps) (closure_ok hfree) I.ok.glob (I.mod.glob.keeps I.bk) hcode (TB.code.keeps I.bk) hP' ht hc TB.gP bP fun c' ctv h' tk hx hge hlt hrec htb => ?_
    obtain ⟨c2, oc, vs, t, e2, hoc, hd, hv⟩ := hrec
    cases e2
    have nC : H c' = none := I.hok.fresh hge
    have I1 := inv_table (t' := tk) (more := #[rawInt pos.line, rawInt pos.col, .ref c']) (h' := h') I hP (fun b o hb e => hx b o hb e) htb hge ⟨oc, vs, t, hoc, hd, hv⟩
    have hE : ExB P H (upd (upd H P (.tbl (ps ++ #[rawInt pos.line, rawInt pos.col, .ref c']))) c' (CodeO c' q)) := fun b o n e => by
      rw [upd_ne (ne_of_none e nC), upd_ne n]
      exact e
    have eL : (ps ++ #[rawInt pos.line, rawInt pos.col, .ref c']).toList = ps.toList ++ [rawInt pos.line, rawInt pos.col, .ref c'] := by simp
    have T1 : TabS (upd (upd H P (.tbl (ps ++ #[rawInt pos.line, rawInt pos.col, .ref c']))) c' (CodeO c' q)) P q := by
      refine ⟨_, by rw [upd_ne (ne_of_none hP nC), upd_same], by rw [eL]; exact PySem.TriplesOk_snoc _ _ _ _ ht, fun p' cv hcv => ?_⟩
      rw [eL] at hcv
      rcases among_app _ ht hcv with z | z
      · obtain ⟨c0, e1, e2⟩ := ha p' cv z
        refine ⟨c0, e1, hE _ _ (fun y => ?_) e2⟩
        rw [y, hP] at e2
        exact codeO_ne ps (Option.some.inj e2).symm
      · exact ⟨c', z, upd_same⟩
    have nF := I1.hok.fresh (Nat.le_refl _)
    have I2 := inv_lam (F := ⟨q, params, body, scope, cloFrom X.env.cells scope.names [], c'⟩) (t' := tk) (pm := (X.mg "__name__").getD .none) (ctv := ctv) I1 rfl
    refine h h'.objs.size c' _ _ I2 (fun b o n e => ?_) (T1.ext fun b o e => ?_) (I.hok.fresh (Nat.le_trans hge (Nat.le_of_lt hlt))) upd_same ?_
    · have e1 := hE b o n e
      exact (upd_ne (ne_of_none e1 nF)).trans e1
    · exact (upd_ne (ne_of_none e nF)).trans e
    · exact (upd_ne (Nat.ne_of_lt hlt)).trans upd_same
  | some cv =>
    obtain ⟨c', e, hco⟩ := ha pos cv hc
    subst e
    refine PySem.W.kla_makeFunctionHit (mg := X.mg) (c := c) (P := P) (ps := ps) (closure_ok hfree) I.ok.glob (I.mod.glob.keeps I.bk) hcode (TB.code.keeps I.bk) hP' ht hc bP fun ctv h' tk hx hsz => ?_
    have I1 : Inv X pins σ H { s with heap := h', toks := tk } := I.kept hx
    have nF : H h'.objs.size = none := I1.hok.fresh (Nat.le_refl _)
    have I2 := inv_lam (F := ⟨q, params, body, scope, cloFrom X.env.cells scope.names [], c'⟩) (t' := tk) (pm := (X.mg "__name__").getD .none) (ctv := ctv) I1 rfl
    refine h h'.objs.size c' _ _ I2 (fun b o n e => ?_) (TabS.ext (H := H) ⟨ps, hP, ht, ha⟩ fun b o e => ?_) nF upd_same ?_
    · exact (upd_ne (ne_of_none e nF)).trans e
    · exact (upd_ne (ne_of_none e nF)).trans e
    · exact (upd_ne (ne_of_none hco nF)).trans hco
end
/-- the reading of a lambda: a new function -/
def tLamV (P : Addr) (q : Str) (mk : Addr → LF) : TE := fun _ H Q => TabS H P q ∧ ∀ (f c' : Addr) (H1 : Hp), ExB P H H1 → TabS H1 P q → H f = none → H1 f = some (LamO f (mk c')) → H1 c' = some (CodeO c' q) → Q (.ref f) H1
theorem pe_lam {X : Cx} {c P : Addr} {q : Str} {params : Arguments} {body : Expr} {scope : Scope} {pos : Pos} (TB : TabB X.base X.mg c P) (hcode : X.env.code = .ref c) (hq : X.env.qual ++ "<lambda>" = q) (hdef : defaultsOf params X.env = ([], []))
    (hfree : ∀ y ∈ scope.names, y.2 = .free → X.env.scope.names.lookup y.1 = some .cell ∨ X.env.scope.names.lookup y.1 = some .free) :
    PE X (.Lambda params body scope pos) (tLamV P q fun c' => ⟨q, params, body, scope, cloFrom X.env.cells scope.names [], c'⟩) := by
  refine ⟨fun pins s σ H Q I h => ?_⟩
  obtain ⟨hT, h⟩ := h
  have hfr : ∀ y ∈ scope.names, y.2 = .free → ∃ c, X.env.cells.lookup y.1 = some c := fun y hy e => (hfree y hy e).elim (fun z => I.ok.has _ (.inl z)) fun z => I.ok.has _ (.inr z)
  exact lam_makeV I TB hcode hq hT hdef hfr fun f c' H1 s' I1 eN T1 f0 f1 c1 => ⟨.ref f, H1, I1, rfl, h f c' H1 eN T1 f0 f1 c1⟩
/-! ### what it promises -/
structure LOk (P : Program) (w : World) (K : PySem.W.Frag) (mg : Str → Option Value) (base : Heap) (CX : CXT) (k : Nat) (f : Addr) (F : LF) (ps fr : List Str) (sp : List (Option V) → Sp) : Prop where
  len : ∀ ws vs H Q E, sp ws vs H Q E → vs.length = ps.length
  run : ∀ (A : Around) (outer : List Env) (s : Shared) (H : Hp) (us : List Value) (vs : List V) (ws : List (Option V)) (Q : VK) (E : XK), Room k A → Env0 P w K mg base A outer s H → H f = some (LamO f F) → H F.c = some (CodeO F.c F.qual) →
    CellsAt F.cl fr ws s.heap H → Vals vs us → sp ws vs H Q E → codeAny (model P w) A (.call (.ref f) ⟨us, []⟩) (CR CX outer P w H s Q E) s
section
variable {CX : CXT} {P : Program} {w : World} {K : PySem.W.Frag} {mg : Str → Option Value} {base : Heap} {N ps fr : List Str} {F : LF} {f : Addr} {k j : Nat} {sp sp' : List (Option V) → Sp}
theorem LOk.mono (o : LOk P w K mg base CX j f F ps fr sp) (h : j ≤ k) : LOk P w K mg base CX k f F ps fr sp := ⟨o.len, fun A outer s H us vs ws Q E hr => o.run A outer s H us vs ws Q E (hr.mono h)⟩
/-- a lambda by its body -/
theorem lok_of (S : NScope N ps fr F.scope) (hb : ∀ (pm ctv : Value) (us : List Value), us.length = ps.length → bindArgs (F.fd pm ctv) ⟨us, []⟩ = pure (ps.zip us)) (len : ∀ ws vs H Q E, sp ws vs H Q E → vs.length = ps.length)
    (hbody : ∀ (A : Around) (outer : List Env) (s : Shared) (H : Hp) (vs : List V) (ws : List (Option V)) (Q : VK) (E : XK), Room k (A.deeper (envF F.nf f s.heap.objs.size)) → ws.length = fr.length → sp ws vs H Q E →
      ∃ t, PE (ncx CX P w K mg base N F.nf f A outer s H E) F.body t ∧ t (startF N vs ws) H Q) :
    LOk P w K mg base CX (k + 1) f F ps fr sp := by
  refine ⟨len, fun A outer s H us vs ws Q E hr e0 hf hc C r hsp => ?_⟩
  have hl := len _ _ _ _ _ hsp
  have lim : s.heap.NoLimit := e0.mod.nolimit.keeps fun b o e => (e0.bs b o e).1
  obtain ⟨od, sl, pm, ctv, ho⟩ := lamO_at e0.hok hf
  refine PySem.W.kla_callFunE hr.depth ho rfl S.co S.gen rfl (codeO_at e0.hok hc) ?_
  rw [hb pm ctv us (by rw [← r.length]; exact hl)]
  refine wpAny_pure (wpAny_newFunctionEnv S.nocell (fun ⟨n, _⟩ hy => S.par n (List.of_mem_zip hy).1) (fun h₁ hns hsb => ⟨lim.fresh _ hsb, ?_⟩) S.kind)
  show codeAny _ _ (.expr F.body (envF F.nf f s.heap.objs.size)) _ _
  have kp : ∀ b o, s.heap.get? b = some o → h₁.get? b = some o := fun b o e => hsb.extBut b o (Nat.ne_of_lt (Heap.lt_size e)) (Heap.get?_push_of_some _ e)
  obtain ⟨t, ht, hq⟩ := hbody A outer s H vs ws Q E (hr.deeper _) C.len hsp
  have I : Inv (ncx CX P w K mg base N F.nf f A outer s H E) [] (startF N vs ws) H { s with heap := h₁, toks := s.toks + (ps.zip us).length } := inv_startN (F := F.nf) S hr.hd e0 hl r C hns kp
  refine PySem.W.kla_codeExpr (wpAny_mono (ht.run [] _ _ H Q I hq) (fun v s' hs => ?_) fun e s' hs => hs)
  obtain ⟨v', H', J, rv, q⟩ := hs
  exact ⟨v', H', J.os, J.bare, J.base, J.hok, rv, q⟩
end
/-! ### a call of what a name holds -/
section
variable {X : Cx} {pins : List (Addr × Obj)} {σ : L2.St} {H : Hp} {s : Shared} {cl : List (Str × Addr)} {fr : List Str} {ws : List (Option V)}
theorem cells_later (C : CellsAt cl fr ws X.s_0.heap X.H_0) (hx : X.ex = []) (I : Inv X pins σ H s) : CellsAt cl fr ws s.heap H := by
  have nx : ∀ c : Addr, c ∉ X.ex := fun c z => by rw [hx] at z; cases z
  have kp : ∀ y c, cl.lookup y = some c → ∀ v, X.s_0.heap.IsCell c v → s.heap.IsCell c v := fun y c e v ⟨o, ho, hd⟩ => by
    obtain ⟨sl, q⟩ := I.base.any ho (C.all y c e).1 (nx c)
    exact ⟨_, q, hd⟩
  refine ⟨C.len, fun y c e => ?_, C.inj, fun i y e => ?_⟩
  · obtain ⟨n, v, z⟩ := C.all y c e
    refine ⟨?_, v, kp y c e v z⟩
    obtain ⟨o, ho, _⟩ := z
    exact I.base.free c o ho n (nx c)
  · obtain ⟨c, hc, hv⟩ := C.has i y e
    refine ⟨c, hc, fun v ev => ?_⟩
    obtain ⟨u, r, z⟩ := hv v ev
    exact ⟨u, r, kp y c hc _ z⟩
theorem lamAt_of {f : Addr} {F : LF} (I : Inv X pins σ H s) (e : H f = some (LamO f F)) : PySem.W.FnAt f s.heap := by
  obtain ⟨od, sl, pm, ctv, ho⟩ := lamO_at I.hok e
  exact ⟨_, od, _, sl, ho⟩
end
/-- x(e), x a name that holds a lambda: where the running def began (h0, H0), its captured cells held ws -/
def tCallV (P : Program) (w : World) (K : PySem.W.Frag) (mg : Str → Option Value) (base h0 : Heap) (H0 : Hp) (CX : CXT) (k i : Nat) (E : L2.St → XK) (t : TA) : TE := fun σ H Q => ∃ (f : Addr) (F : LF) (ps fr : List Str) (ws : List (Option V)) (sp : List (Option V) → Sp),
  σ[i]? = some (some (.ref f)) ∧ H f = some (LamO f F) ∧ LOk P w K mg base CX k f F ps fr sp ∧ CellsAt F.cl fr ws h0 H0 ∧ t σ H fun vs H1 => H1 f = some (LamO f F) ∧ H1 F.c = some (CodeO F.c F.qual) ∧ sp ws vs H1 Q (E σ)
section
variable {X : Cx} {CX : CXT} {i j k : Nat} {x : Str} {E : L2.St → XK} {t : TA} {e : Expr} {es : List Expr} {p pos : Pos}
theorem pe_callV {P : Program} {w : World} {K : PySem.W.Frag} {mg : Str → Option Value} {base h0 : Heap} {H0 : Hp} (e1 : X.prog = P) (e2 : X.w = w) (e3 : X.K = K) (e4 : X.mg = mg) (e5 : X.base = base) (e6 : X.s_0.heap = h0) (e7 : X.H_0 = H0)
    (hr : Room j X.A) (hk : k ≤ j) (hex : X.ex = []) (hx : ∀ σ, PassesAt CX X σ (E σ)) (hN : X.N[i]? = some x) (hv : Vis X.env.scope x) (ha : PA X (e :: es) t)
    (hd : (x == ("__debug__" : Str)) = false := by decide) (hcd : (x == ("__classdict__" : Str)) = false := by decide)
    (he : starEach (e :: es) X.env = (false, eval e X.env) :: starEach es X.env := by rfl) (hpl : (backTo pos (starEach es X.env)).any (·.1) = false := by rfl) :
    PE X (.Call (.Name x p) (e :: es) [] pos) (tCallV P w K mg base h0 H0 CX k i E t) := by
  subst e1 e2 e3 e4 e5 e6 e7
  refine ⟨fun pins s σ H Q I h => ?_⟩
  obtain ⟨f, F, ps, fr, ws, sp, hs, hf, Fn, C0, ht⟩ := h
  refine wpAny_Call_Name_kw (thn ((pe_var (pos := p) hN hv hd hcd).run pins s σ H (fun v H1 => v = .ref f ∧ H1 = H) I ⟨.ref f, hs, rfl, rfl⟩) fun u s1 ⟨v, H1, I1, r1, q1⟩ => ?_)
  obtain ⟨ev, eH⟩ := q1
  subst ev
  rw [eH] at I1
  obtain rfl : u = Value.ref f := r1
  refine PySem.W.callWith_F (first := []) (lamAt_of I1 hf) (thn (ha.run pos pins s1 σ H _ I1 ht) fun us s2 ⟨vs, H2, I2, r, h1, h2, q⟩ => ⟨lamAt_of I2 h1, ?_⟩) he hpl
  show wpAny _ _ (call (.ref f) us) _ _ _
  refine wpAny_call (codeAny_mono (Fn.run X.A X.stack s2 H2 us vs ws Q (E σ) (hr.mono hk) I2.env0 h1 h2 (cells_later C0 hex I2) r q) fun r s' hq => ?_)
  cases r with
  | error e => exact hx σ pins H2 s2 e s' I2 hq
  | ok fl =>
    cases fl with
    | ret u => exact I2.after hq
    | next => exact False.elim hq
    | brk => exact False.elim hq
    | cont => exact False.elim hq
end
/-! ### a def whose promise is told of the very heap -/
structure FnOkS (P : Program) (w : World) (K : PySem.W.Frag) (mg : Str → Option Value) (base : Heap) (CX : CXT) (k : Nat) (f : Addr) (fd : FuncData) (ps : List Str) (sp : Heap → Sp) : Prop where
  len : ∀ h vs H Q E, sp h vs H Q E → vs.length = ps.length
  run : ∀ (A : Around) (outer : List Env) (s : Shared) (H : Hp) (args : Args) (us : List Value) (vs : List V) (Q : VK) (E : XK), Room k A → Env0 P w K mg base A outer s H → BindsTo s fd args (ps.zip us) → Vals vs us → sp s.heap vs H Q E →
    codeAny (model P w) A (.call (.ref f) args) (CR CX outer P w H s Q E) s
section
variable {P : Program} {w : World} {K : PySem.W.Frag} {mg : Str → Option Value} {base : Heap}
theorem okS {x qual : Str} {st : Stmt} {f : Addr} {fd : FuncData} {N ps : List Str} {k : Nat} {sp : Heap → Sp} (F : Fun K x qual st f fd) (S : FnScope N ps (defScope st)) (len : ∀ h vs H Q E, sp h vs H Q E → vs.length = ps.length)
    (hbody : ∀ (cdv : Value) (A : Around) (outer : List Env) (s : Shared) (H : Hp) (vs : List V) (Q : VK) (E : XK), Room k (A.deeper (envOfC qual (defScope st) s.heap.objs.size f cdv)) → sp s.heap vs H Q E →
      ∃ t, PSs (cxOf CX0 P w K mg base N qual (defScope st) f cdv A outer s H E).nox (defBody st) t ∧ t { nx := fun _ H' => Q .non H', rt := Q } (start N vs) H) : FnOkS P w K mg base CX0 (k + 1) f fd ps sp := by
  obtain ⟨oc, od, kV, doc, pm, an, cdv, ct, osl, rfl, lk, hcd⟩ := F.ex
  refine ⟨len, fun A outer s H args us vs Q E hr e0 hb r hsp => run_ofS lk hcd S hr e0 hb r (len _ _ _ _ _ hsp) fun hr' => ?_⟩
  obtain ⟨t, h, q⟩ := hbody cdv A outer s H vs Q E hr' hsp
  exact ⟨t, h.nox, q⟩
end
def tCallF (sp : L2.St → Sp) (E : XK) (t : TA) : TE := fun σ H Q => t σ H fun vs H1 => sp σ vs H1 Q E
section
variable {X : Cx} {CX : CXT} {k : Nat} {f : Addr} {fd : FuncData} {ps : List Str} {sp : Heap → Sp} {sq : L2.St → Sp} {E : XK} {x : Str} {p pos : Pos} {e : Expr} {es : List Expr} {t : TA}
theorem pe_callF (F : FnOkS X.prog X.w X.K X.mg X.base CX k f fd ps sp) (hr : Room k X.A) (hg : Gl X x) (hm : X.mg x = some (.ref f)) (hk : PySem.W.keepIn X.K (.ref f) = true) (hb : Binds X.K fd ps []) (hx : Passes CX X E)
    (hs : ∀ (pins : List (Addr × Obj)) (σ : L2.St) (H : Hp) (s : Shared) (vs : List V) (Q : VK) (E : XK), Inv X pins σ H s → sq σ vs H Q E → sp s.heap vs H Q E)
    (ha : PA X (e :: es) t) (hdb : (x == ("__debug__" : Str)) = false := by decide) (he : starEach (e :: es) X.env = (false, eval e X.env) :: starEach es X.env := by rfl) (hpl : (backTo pos (starEach es X.env)).any (·.1) = false := by rfl) :
    PE X (.Call (.Name x p) (e :: es) [] pos) (tCallF sq E t) := by
  refine ⟨fun pins s σ H Q I h => ?_⟩
  refine wpAny_Call_Name_kw (ld_glob I hg hm ?_ hdb)
  refine PySem.W.callWith_K (h₀ := X.base) I.ok.mod.kin hk (thn (ha.run pos pins s σ H _ I h) fun us s1 ⟨vs, H1, I1, r, q⟩ => ⟨I1.kIn, ?_⟩) he hpl
  have q := hs pins σ H1 s1 vs Q E I1 q
  have hl : us.length = ps.length := by rw [← r.length]; exact F.len _ _ _ _ _ q
  have hb' : BindsTo s1 fd ⟨us, []⟩ (ps.zip us) := by
    have z := hb s1 us I1.kIn (by rw [List.append_nil]; exact hl)
    rw [List.append_nil] at z
    exact z
  refine wpAny_call (codeAny_mono (F.run X.A X.stack s1 H1 ⟨us, []⟩ us vs Q E hr I1.env0 hb' r q) fun r s' hq => ?_)
  cases r with
  | error e => exact hx pins σ H1 s1 e s' I1 hq
  | ok fl =>
    cases fl with
    | ret u => exact I1.after hq
    | next => exact False.elim hq
    | brk => exact False.elim hq
    | cont => exact False.elim hq
end
/-! ### a def whose code object is known: it makes lambdas -/
structure FunC (K : PySem.W.Frag) (x qual : Str) (st : Stmt) (f : Addr) (fd : FuncData) (c : Addr) : Prop where
  ex : ∃ (oc : Value) (od : Option Addr) (kV doc pm : Value) (an : Option Addr) (ct : Value) (osl : Array (Option Value)),
    fd = PySem.W.fnOf x qual (defArgs st) (defBody st) (defScope st) .none kV doc pm an (.ref c) ct ∧ K.lookup f = some ⟨oc, od, .func fd, osl⟩ ∧ PySem.W.codeIn K (.ref c) qual = true
theorem okC {P : Program} {w : World} {K : PySem.W.Frag} {mg : Str → Option Value} {base : Heap} {x qual : Str} {st : Stmt} {f c : Addr} {fd : FuncData} {N ps : List Str} {k : Nat} {sp : Sp} (F : FunC K x qual st f fd c) (S : FnScope N ps (defScope st)) (len : ∀ vs H Q E, sp vs H Q E → vs.length = ps.length)
    (hbody : ∀ (A : Around) (outer : List Env) (s : Shared) (H : Hp) (vs : List V) (Q : VK) (E : XK), Room k (A.deeper (envOfC qual (defScope st) s.heap.objs.size f (.ref c))) → sp vs H Q E →
      ∃ t, PSs (cxOf CX0 P w K mg base N qual (defScope st) f (.ref c) A outer s H E).nox (defBody st) t ∧ t { nx := fun _ H' => Q .non H', rt := Q } (start N vs) H) : FnOk P w K mg base CX0 (k + 1) f fd ps sp := by
  obtain ⟨oc, od, kV, doc, pm, an, ct, osl, rfl, lk, hcd⟩ := F.ex
  exact fn_of lk hcd S len fun A outer s H vs Q E hr hsp => (hbody A outer s H vs Q E hr hsp).elim fun t h => ⟨t, h.1.nox, h.2⟩
theorem func_mk {K : PySem.W.Frag} {x qual : Str} {st : Stmt} {f c : Addr} {oc : Value} {od an : Option Addr} {osl : Array (Option Value)} {kV doc pm ct : Value} (l : K.lookup f = some ⟨oc, od, .func (PySem.W.fnOf x qual (defArgs st) (defBody st) (defScope st) .none kV doc pm an (.ref c) ct), osl⟩)
    (hc : PySem.W.codeIn K (.ref c) qual = true) : FunC K x qual st f (PySem.W.fnOf x qual (defArgs st) (defBody st) (defScope st) .none kV doc pm an (.ref c) ct) c := ⟨oc, od, kV, doc, pm, an, ct, osl, rfl, l, hc⟩
/-- the name of its lambdas -/
abbrev lamq (qual : Str) (st : Stmt) : Str := (envOfC qual (defScope st) 0 0 .none).qual ++ "<lambda>"
/-! ### the end, with the empty tables of some defs -/
/-- the table of the def x is empty -/
def TabAt (K : PySem.W.Frag) (mg : Str → Option Value) (h : Heap) (x : Str) : Prop := ∀ (f c P : Addr) (o : Obj) (fd : FuncData) (e : Value) (dd : Option Addr) (vs : Array Value) (sl : Array (Option Value)), mg x = some (.ref f) → K.lookup f = some o → o.data = .func fd → fd.code = .ref c →
  K.lookup c = some ⟨e, dd, .fields vs, sl⟩ → vs[11]? = some (.ref P) → h.get? P = some { cls := .none, data := .fields #[] }
theorem walk_tabs {l : PySem.W.OpenLaw} {n k : Nat} {q : Program} {loose : List Str} {XP : (Str → Option Value) → Heap → Prop} {YP : World → Heap → Prop} {d : DefRec} {K : Params → PySem.W.Frag} {CX : World → CXT} {x : Str} (names : List Str)
    (hn : l.most = some n) (hn2 : n ≤ sizeLine) (hdf : d.params.defaults = []) (hr : Room k callerA) (hrec : (names.all fun y => (recsOf q).any fun e => e.name == y) = true) (hY : ∀ (w : World) (h : Heap), YP w h → (K w.params).In h)
    (F : ∀ (w : World) (mg : Str → Option Value) (fa : Addr) (h : Heap), YP w h → (K w.params).In h → h.Ns mainGlobals mg → mg d.name = some (.ref fa) → (∀ y ∈ names, TabAt (K w.params) mg h y) → LawAtS l w (K w.params) (CX w) k n x mg fa h)
    (hCX : ∀ (w : World) (H : Hp) (s : Shared) (e : Value) (s' : Shared), CX w [] H s (fun _ _ _ => False) e s' → False) :
    PySem.W.WalkO q loose XP YP l.row.toRowW d [] (fun f vs => PySem.call f vs) := by
  refine Att.attach_callB hn hdf fun w s₀ s₁ mg mb fa o pm cd doc a vs ns G Y ho hd hcd hmg hobj hints hlen hbits hg => ?_
  have KX := hY w _ Y
  have tabs : ∀ y ∈ names, TabAt (K w.params) mg s₁.heap y := fun y hy f c P o1 fd1 e dd vs1 sl k0 k1 k2 k3 k4 k5 => by
    obtain ⟨dL, hm, hn1⟩ := List.any_eq_true.mp (List.all_eq_true.mp hrec y hy)
    obtain ⟨a', o', fd', c', P', t1, t2, t3, t4, _, ⟨oc, vc, e1, _, e3, e4⟩, hP⟩ := G.T.tab dL hm
    rw [beq_iff_eq.mp hn1, k0] at t1
    cases t1
    rw [KX _ _ k1] at t2
    cases t2
    rw [k2] at t3
    cases t3
    rw [k3] at t4
    cases t4
    rw [KX _ _ k4] at e1
    cases e1
    cases e3
    rw [k5] at e4
    cases e4
    exact hP
  obtain ⟨fd, cs, sp, hT, nT, C, hb, hsp, hF⟩ := F w mg fa _ Y KX G.T.g hmg tabs
  exact law_callTs KX G.T.g G.T.b G.T.builtins G.T.nolimit hg hT nT C G.T.bmain hobj hints (Nat.le_trans hlen hn2) hr hF hb (fun H hH hS => hsp H a ns hlen hbits hH hS) fun H e s' => hCX w H s₁ e s'
/-! ### readings where a lambda is made on the way: all but the table is kept -/
section
variable {K : PySem.W.Frag} {σ : L2.St} {H H' : Hp} {ta tb te : TE} {t : TT} {D : Ends} {tu tw tz : TS} {P : Addr} {q : Str}
def EvB (P : Addr) (q : Str) (te : TE) (σ : L2.St) (H : Hp) (v : V) : Prop := ∀ Q : VK, (∀ H2, ExB P H H2 → TabS H2 P q → Q v H2) → te σ H Q
def EvTB (P : Addr) (q : Str) (tt : TT) (σ : L2.St) (H : Hp) (b : Bool) : Prop := ∀ Q : Bool → Hp → Prop, (∀ H2, ExB P H H2 → TabS H2 P q → Q b H2) → tt σ H Q
theorem eb_notB {b : Bool} (h : EvB P q te σ H (.bl b)) : EvTB P q (tNot (tB te)) σ H (!b) := fun Q k => h _ fun H2 e t => ⟨b, rfl, k H2 e t⟩
/-- an if whose test makes a lambda, and is False -/
theorem qb_skip (h : EvTB P q t σ H false) (k : ∀ H1, ExB P H H1 → TabS H1 P q → tz D σ H1) : tSeq (tIfS t tu tNext) tz D σ H := h _ fun H1 e t => by
  rw [if_neg Bool.false_ne_true]
  exact k H1 e t
theorem sb_skip (h : EvTB P q t σ H false) (k : ∀ H1, ExB P H H1 → TabS H1 P q → D.nx σ H1) : tIfS t tu tNext D σ H := h _ fun H1 e t => by
  rw [if_neg Bool.false_ne_true]
  exact k H1 e t
theorem sb_ret {v : V} (h : EvB P q te σ H v) (k : ∀ H1, ExB P H H1 → TabS H1 P q → D.rt v H1) : tRet te D σ H := h _ k
end
end PA

set_option Elab.async false
set_option linter.all false
set_option maxRecDepth 100000
set_option maxHeartbeats 4000000
namespace PA
open PySem PySem.Spec PyProof.Rows L2 Evl LamX NdefX
/-! ### lambdas that call a def: g(x), g(3, x), g(y, x), g(y + 2, x) -/
section
variable {P : Program} {w : World} {K : PySem.W.Frag} {mg : Str → Option Value} {base : Heap} {kg : Nat} {ag : Addr} {dg : FuncData} {spg : Sp} {f : Addr} {F : LF} {g x y pa pb : Str} {p1 p2 p3 p4 p5 p6 : Pos} {n : Int} {j : Nat}
theorem lok_x (G : FnOk P w K mg base (L2N.CX P w) kg ag dg [pa] spg) (hm : mg g = some (.ref ag)) (hk : PySem.W.keepIn K (.ref ag) = true) (hbd : Binds K dg [pa] []) (S : NScope [x] [x] [] F.scope) (hB : F.body = .Call (.Name g p1) [.Name x p2] [] p3) (hg : F.scope.names.lookup g = some .globalImplicit)
    (hb : ∀ (pm ctv : Value) (us : List Value), us.length = 1 → bindArgs (F.fd pm ctv) ⟨us, []⟩ = pure ([x].zip us)) (hd : (g == ("__debug__" : Str)) = false := by decide) (h1 : (x == ("__debug__" : Str)) = false := by decide) (h2 : (x == ("__classdict__" : Str)) = false := by decide) :
    LOk P w K mg base (L2N.CX P w) (kg + 1) f F [x] [] (fun _ vs H Q E => ∃ u, vs = [u] ∧ spg [u] H Q E) := by
  refine lok_of S hb (fun ws vs H Q E h => ?_) fun A outer s H vs ws Q E hr hl h => ?_
  · obtain ⟨u, rfl, _⟩ := h
    rfl
  · obtain ⟨u, rfl, h⟩ := h
    rw [hB]
    exact ⟨_, pe_call G hr hg hm hk hbd .nil (L2N.passes_call (L2N.takes_of rfl rfl rfl rfl) (fun _ _ _ _ h => h)) (pa_cons (pe_var (i := 0) rfl (Or.inl (S.par x List.mem_cons_self)) h1 h2) pa_nil) hd, u, rfl, h⟩
theorem lok_cx (G : FnOk P w K mg base (L2N.CX P w) kg ag dg [pa, pb] spg) (hm : mg g = some (.ref ag)) (hk : PySem.W.keepIn K (.ref ag) = true) (hbd : Binds K dg [pa, pb] []) (S : NScope [x] [x] [] F.scope) (hB : F.body = .Call (.Name g p1) [.Constant (.int n) j p2, .Name x p3] [] p4) (hg : F.scope.names.lookup g = some .globalImplicit)
    (hb : ∀ (pm ctv : Value) (us : List Value), us.length = 1 → bindArgs (F.fd pm ctv) ⟨us, []⟩ = pure ([x].zip us)) (hd : (g == ("__debug__" : Str)) = false := by decide) (h1 : (x == ("__debug__" : Str)) = false := by decide) (h2 : (x == ("__classdict__" : Str)) = false := by decide) :
    LOk P w K mg base (L2N.CX P w) (kg + 1) f F [x] [] (fun _ vs H Q E => ∃ u, vs = [u] ∧ spg [.int n, u] H Q E) := by
  refine lok_of S hb (fun ws vs H Q E h => ?_) fun A outer s H vs ws Q E hr hl h => ?_
  · obtain ⟨u, rfl, _⟩ := h
    rfl
  · obtain ⟨u, rfl, h⟩ := h
    rw [hB]
    exact ⟨_, pe_call G hr hg hm hk hbd .nil (L2N.passes_call (L2N.takes_of rfl rfl rfl rfl) (fun _ _ _ _ h => h)) (pa_cons pe_int (pa_cons (pe_var (i := 0) rfl (Or.inl (S.par x List.mem_cons_self)) h1 h2) pa_nil)) hd, u, rfl, h⟩
theorem lok_vx (G : FnOk P w K mg base (L2N.CX P w) kg ag dg [pa, pb] spg) (hm : mg g = some (.ref ag)) (hk : PySem.W.keepIn K (.ref ag) = true) (hbd : Binds K dg [pa, pb] []) (S : NScope [x, y] [x] [y] F.scope) (hB : F.body = .Call (.Name g p1) [.Name y p2, .Name x p3] [] p4) (hg : F.scope.names.lookup g = some .globalImplicit)
    (hb : ∀ (pm ctv : Value) (us : List Value), us.length = 1 → bindArgs (F.fd pm ctv) ⟨us, []⟩ = pure ([x].zip us)) (hd : (g == ("__debug__" : Str)) = false := by decide) (h1 : (x == ("__debug__" : Str)) = false := by decide) (h2 : (x == ("__classdict__" : Str)) = false := by decide)
    (h3 : (y == ("__debug__" : Str)) = false := by decide) (h4 : (y == ("__classdict__" : Str)) = false := by decide) :
    LOk P w K mg base (L2N.CX P w) (kg + 1) f F [x] [y] (fun ws vs H Q E => ∃ u v, vs = [u] ∧ ws = [some v] ∧ spg [v, u] H Q E) := by
  refine lok_of S hb (fun ws vs H Q E h => ?_) fun A outer s H vs ws Q E hr hl h => ?_
  · obtain ⟨u, v, rfl, _⟩ := h
    rfl
  · obtain ⟨u, v, rfl, rfl, h⟩ := h
    rw [hB]
    exact ⟨_, pe_call G hr hg hm hk hbd .nil (L2N.passes_call (L2N.takes_of rfl rfl rfl rfl) (fun _ _ _ _ h => h)) (pa_cons (pe_var (i := 1) rfl (Or.inr (Or.inr (S.frk y List.mem_cons_self))) h3 h4) (pa_cons (pe_var (i := 0) rfl (Or.inl (S.par x List.mem_cons_self)) h1 h2) pa_nil)) hd, v, rfl, u, rfl, h⟩
theorem lok_v2x (G : FnOk P w K mg base (L2N.CX P w) kg ag dg [pa, pb] spg) (hm : mg g = some (.ref ag)) (hk : PySem.W.keepIn K (.ref ag) = true) (hbd : Binds K dg [pa, pb] []) (S : NScope [x, y] [x] [y] F.scope) (hB : F.body = .Call (.Name g p1) [.BinOp (.Name y p2) .Add (.Constant (.int n) j p5) p6, .Name x p3] [] p4) (hg : F.scope.names.lookup g = some .globalImplicit)
    (hb : ∀ (pm ctv : Value) (us : List Value), us.length = 1 → bindArgs (F.fd pm ctv) ⟨us, []⟩ = pure ([x].zip us)) (hd : (g == ("__debug__" : Str)) = false := by decide) (h1 : (x == ("__debug__" : Str)) = false := by decide) (h2 : (x == ("__classdict__" : Str)) = false := by decide)
    (h3 : (y == ("__debug__" : Str)) = false := by decide) (h4 : (y == ("__classdict__" : Str)) = false := by decide) :
    LOk P w K mg base (L2N.CX P w) (kg + 1) f F [x] [y] (fun ws vs H Q E => ∃ (u : V) (m : Int), vs = [u] ∧ ws = [some (.int m)] ∧ spg [.int (m + n), u] H Q E) := by
  refine lok_of S hb (fun ws vs H Q E h => ?_) fun A outer s H vs ws Q E hr hl h => ?_
  · obtain ⟨u, v, rfl, _⟩ := h
    rfl
  · obtain ⟨u, m, rfl, rfl, h⟩ := h
    rw [hB]
    exact ⟨_, pe_call G hr hg hm hk hbd .nil (L2N.passes_call (L2N.takes_of rfl rfl rfl rfl) (fun _ _ _ _ h => h)) (pa_cons (pe_op op_add (pe_var (i := 1) rfl (Or.inr (Or.inr (S.frk y List.mem_cons_self))) h3 h4) pe_int) (pa_cons (pe_var (i := 0) rfl (Or.inl (S.par x List.mem_cons_self)) h1 h2) pa_nil)) hd, .int m, rfl, m, n, rfl, rfl, u, rfl, h⟩
end
end PA

set_option Elab.async false
set_option linter.all false
set_option maxRecDepth 100000
set_option maxHeartbeats 4000000
namespace PA
open PySem PySem.Spec PyProof.Rows L2 Evl L2H
/-! ### a list comprehension while an error is handled -/
/-- one more pin for the context -/
abbrev pnd (X : Cx) (p : Addr × Obj) : Cx := { X with pn := [p] }
section
variable {X : Cx} {pins : List (Addr × Obj)} {σ : L2.St} {H : Hp} {s : Shared}
theorem pnd_in {p : Addr × Obj} (h0 : X.pn = []) (I : Inv X pins σ H s) (hp : s.heap.get? p.1 = some p.2 ∧ H p.1 = none ∧ p.1 ≠ X.env.locals ∧ p.1 ∉ X.fs ∧ ∀ v, p.2.data ≠ .cell v) : Inv (pnd X p) pins σ H s := by
  have k := I.ok
  refine ⟨⟨k.mod, k.kind, k.glob, k.blt, k.above, k.inj, k.has, k.cab, k.hd, k.frames, k.stk, k.exf, k.bs, k.bsz, k.noex, k.exfs, k.funs, k.frf⟩, I.os, I.bare, I.base, I.loc, I.cell, I.free, I.freeC, fun q hq => ?_, I.hok, I.len⟩
  rcases List.mem_append.mp hq with z | z
  · have e : q = p := by simpa using z
    rw [e]
    exact hp
  · exact I.pin q (List.mem_append_right _ z)
theorem pnd_out {p : Addr × Obj} (h0 : X.pn = []) (I : Inv (pnd X p) pins σ H s) : Inv X pins σ H s := by
  have k := I.ok
  refine ⟨⟨k.mod, k.kind, k.glob, k.blt, k.above, k.inj, k.has, k.cab, k.hd, k.frames, k.stk, k.exf, k.bs, k.bsz, k.noex, k.exfs, k.funs, k.frf⟩, I.os, I.bare, I.base, I.loc, I.cell, I.free, I.freeC, fun q hq => ?_, I.hok, I.len⟩
  rw [h0, List.nil_append] at hq
  exact I.pin q (List.mem_append_right _ hq)
end
section
variable {X : Cx}
theorem pe_lcH {elt tg iter : Expr} {ifs : List Expr} {scope : Scope} {own : List (Str × Nat)} {pos : Pos} {wi : TI} {g : TG} {tt : TT} {te : TE} (hot : HotC X) (hN : X.N.Nodup) (hi : PIH X tg iter wi) (ok : BlkOk X.N X.env.scope scope own)
    (hg : ∀ (s : Shared) (H : Hp) (C : Addr) (cl : List (Str × Addr)) (fp : List Addr), PG (X.blk s H scope (compEnvC scope cl C X.env) fp) tg g) (ht : ∀ (s : Shared) (H : Hp) (C : Addr) (cl : List (Str × Addr)) (fp : List Addr), PTs (X.blk s H scope (compEnvC scope cl C X.env) fp) ifs tt)
    (he : ∀ (s : Shared) (H : Hp) (C : Addr) (cl : List (Str × Addr)) (fp : List Addr), PE (X.blk s H scope (compEnvC scope cl C X.env) fp) elt te) (hs : ∀ x, foldedSetIterable iter X.env x = pure x := by intro _; rfl) :
    PE X (.ListComp elt [⟨tg, iter, ifs, 0⟩] scope pos) (tLc wi g tt te (own.map (·.2))) := by
  obtain ⟨p, h1, hp⟩ := hot
  refine ⟨fun pins s σ H Q I h => ?_⟩
  rw [eval_ListComp]
  have fr : ∀ y ∈ scope.names, y.2 = .free → ∃ c, X.env.cells.lookup y.1 = some c := fun y hy e => (ok.free y hy e).elim (fun k => I.ok.has _ (.inl k)) fun k => I.ok.has _ (.inr k)
  refine wpAny_comprehension_free (use := none) rfl hs (closure_ok fr) ok.kind (fun y hy e => by rw [ok.uniq y hy, e]) (thn (hi.run pins s σ H _ I h) fun xv s1 hx => thn hx fun itv s2 h2 => ?_)
  obtain ⟨it, fp, tn, J, H2, rfl, I2, T, st2, f2, q⟩ := h2
  refine wpAny_newObj_type (newEnv_comp ?_) (by show 0 ≤ sizeLine; decide)
  generalize hD : s2.heap.objs.size = D
  obtain ⟨W, ⟨m0, w0⟩, turn⟩ := q D (I2.hok.fresh (Nat.le_of_eq hD))
  generalize hs3 : ({ s2 with heap := s2.heap.push { cls := .type "list", data := .seq ([] : List Value).toArray } } : Shared) = s3
  have h3 : s3.heap = s2.heap.push { cls := .type "list", data := .seq ([] : List Value).toArray } := by rw [← hs3]
  have I3 : Inv X pins σ (upd H2 D (.lst [])) s3 := by
    rw [← hs3]
    refine I2.laid (t' := s2.toks) (fun b o e => Heap.get?_push_of_some _ e) (Nat.le_of_eq hD) ⟨Nat.zero_le _, [], 0, .nil, ?_⟩
    rw [← hD]
    exact Heap.get?_push_size _ rfl
  have f3 : ∀ b ∈ fp, FpOk X pins (upd H2 D (.lst [])) b ∧ b < s3.heap.objs.size := fun b hb => by
    obtain ⟨o, e, _⟩ := T.obj _ _ st2 b hb
    have lt := Heap.lt_size e
    refine ⟨⟨?_, (f2 b hb).2⟩, by rw [h3, Heap.size_push]; exact Nat.lt_succ_of_lt lt⟩
    rw [upd_ne (by rw [← hD]; exact Nat.ne_of_lt lt)]
    exact (f2 b hb).1
  have st3 : tn 0 s3.heap := T.keep _ _ _ st2 fun b _ o e => by rw [h3]; exact Heap.get?_push_of_some _ e
  have I4 := block_start I3 ok hN f3
  have pg := hg s3 (upd H2 D (.lst [])) s3.heap.objs.size (cellsFrom (s3.heap.objs.size + 1) scope.names (cloFrom X.env.cells scope.names [])) fp
  have pt := ht s3 (upd H2 D (.lst [])) s3.heap.objs.size (cellsFrom (s3.heap.objs.size + 1) scope.names (cloFrom X.env.cells scope.names [])) fp
  have pe := he s3 (upd H2 D (.lst [])) s3.heap.objs.size (cellsFrom (s3.heap.objs.size + 1) scope.names (cloFrom X.env.cells scope.names [])) fp
  show codeAny _ _ (.compStart (.ListComp elt [⟨tg, iter, ifs, 0⟩] scope pos) 0 (.ref it) (.ref D) (compEnvC scope (cellsFrom (s3.heap.objs.size + 1) scope.names (cloFrom X.env.cells scope.names [])) s3.heap.objs.size X.env)) (compPost (model X.prog X.w) X.A X.xe none (EP X pins σ Q) (.ref D) s3.heap.objs.size) { s3 with heap := pushCells (s3.heap.push { cls := .type "dict", data := .dict #[] }) scope.names }
  have nfp : ∀ b ∈ fp, (upd H2 D (.lst [])) b = none := fun b hb => (f3 b hb).1.1
  generalize hce : compEnvC scope (cellsFrom (s3.heap.objs.size + 1) scope.names (cloFrom X.env.cells scope.names [])) s3.heap.objs.size X.env = ce at I4 pg pt pe ⊢
  have cL : ce.locals = s3.heap.objs.size := by subst hce; rfl
  generalize hH3 : upd H2 D (.lst []) = H3 at I3 I4 pg pt pe w0 nfp f3
  generalize hs4 : ({ s3 with heap := pushCells (s3.heap.push { cls := .type "dict", data := .dict #[] }) scope.names } : Shared) = s4 at I4 ⊢
  have st4 : tn 0 s4.heap := T.keep _ _ _ st3 fun b _ o e => by rw [← hs4]; exact pushCells_keeps _ _ _ _ (Heap.get?_push_of_some _ e)
  -- the handled error stands through the block
  have P3 := I3.pin p (List.mem_append_left _ hp)
  have pinned : ∀ {σ' : L2.St} {H' : Hp} {s' : Shared}, Inv (X.blk s3 H3 scope ce fp) [] σ' H' s' → Inv (pnd (X.blk s3 H3 scope ce fp) p) [] σ' H' s' := fun {σ' H' s'} I' => by
    have nst : p.1 ∉ frs X.stack := fun hm => (List.mem_cons.mp (I3.stkSub p.1 hm)).elim P3.2.2.1 P3.2.2.2.1
    have nfp' : p.1 ∉ fp := fun hm => (f3 p.1 hm).1.2.2.2.2.2 p (List.mem_append_left _ hp) rfl
    refine pnd_in rfl I' ⟨I'.base.keep p.1 p.2 P3.1 P3.2.1 nst nfp', I'.base.free p.1 p.2 P3.1 P3.2.1 nfp', ?_, nst, P3.2.2.2.2⟩
    show p.1 ≠ ce.locals
    rw [cL]
    exact Nat.ne_of_lt (Heap.lt_size P3.1)
  have hotB : HotC (pnd (X.blk s3 H3 scope ce fp) p) := ⟨p, h1, List.mem_cons_self⟩
  have stat : ∀ {σ' : L2.St} {H' : Hp} {s' : Shared}, Inv (X.blk s3 H3 scope ce fp) [] σ' H' s' → (∀ b ∈ fp, H' b = none) → ∀ b ∈ fp, FpOk (pnd (X.blk s3 H3 scope ce fp) p) [] H' b := fun {σ' H' s'} I' hn b hb =>
    ⟨hn b hb, (I'.ok.exf b hb).1, I'.ok.exfs b hb, .inl hb, fun x c e => (I'.ok.exf b hb).2 x c e, fun r hr => by
      have e : r = p := by simpa using hr
      rw [e]
      exact (f3 b hb).1.2.2.2.2.2 p (List.mem_append_left _ hp)⟩
  have loop : codeAny (model X.prog X.w) X.A (.compLoop (.ListComp elt [⟨tg, iter, ifs, 0⟩] scope pos) 0 (.ref it) (.ref D) ce) (compPost (model X.prog X.w) X.A X.xe none (EP X pins σ Q) (.ref D) s3.heap.objs.size) s4 := by
    refine compLoop_any (fun n s' => ∃ i H', Inv (X.blk s3 H3 scope ce fp) [] (wipe σ (own.map (·.2))) H' s' ∧ tn i s'.heap ∧ (∀ b ∈ fp, H' b = none) ∧ W i n H') ?_ m0 ⟨0, H3, I4, st4, nfp, w0⟩
    rintro n s5 ⟨i, H5, I5, st5, n5, w5⟩
    rcases turn i n H5 w5 with ⟨stop, qq⟩ | ⟨go, Nx, hNx, step⟩
    · refine thnF (T.done (pnd (X.blk s3 H3 scope ce fp) p) rfl rfl rfl hotB i [] s5 _ H5 (fun _ _ => False) (pinned I5) (stat I5 n5) st5 stop) fun r s6 ⟨hr, I6⟩ => ?_
      subst hr
      have I6 := pnd_out rfl I6
      have I7 : Inv X pins σ H5 s6 := I3.call' (ch := fp) I6.os I6.base I6.hok I6.bare fun b hb => ⟨(f3 b hb).1.2.2.2.1, (f3 b hb).1.2.1, (f3 b hb).1.2.2.2.2.1, (f3 b hb).1.2.2.2.2.2⟩
      have nC : H5 s3.heap.objs.size = none := by
        have z : H5 ce.locals = none := I6.free
        rw [cL] at z
        exact z
      obtain ⟨m, hn, _⟩ := I6.loc
      have hn : s6.heap.Ns ce.locals m := hn
      rw [cL] at hn
      obtain ⟨k0, k1, k2, k3, k4, k5⟩ := I3.fpOk (H' := H5) (Nat.le_refl _) nC
      exact ⟨m, hn, fun h'' sb => ⟨.ref D, H5, I7.turned (t' := s6.toks) (fun b o hb e => (sb.2 b hb).trans e) k0 k1 k3 k4 k5, rfl, qq⟩⟩
    · refine thnF (T.item (pnd (X.blk s3 H3 scope ce fp) p) rfl rfl rfl hotB i [] s5 _ H5 (fun _ _ => False) (pinned I5) (stat I5 n5) st5 go) fun r s6 ⟨u, hr, h6⟩ => ?_
      subst hr
      refine thnF h6 fun _ s7 ⟨x, H7, I7p, r7, y7, st7, n7⟩ => ?_
      have I7 := pnd_out rfl I7p
      have fpk : ∀ b ∈ fp, FpOk (X.blk s3 H3 scope ce fp) [] H7 b := fun b hb => by
        obtain ⟨a1, a2, a3, a4, a5, _⟩ := stat I7 n7 b hb
        exact ⟨a1, a2, a3, a4, a5, fun r hr => nomatch (show r ∈ ([] : List (Addr × Obj)) from hr)⟩
      refine thnF (pg.run _ s7 _ H7 x u _ (I7.pinned fpk (T.obj _ _ st7)) r7 (step x H7 y7)) fun _ s8 ⟨σ8, H8, I8, hw8, q8⟩ => ?_
      refine thnF (pt.run _ s8 σ8 H8 _ I8 q8) fun b s9 ⟨H9, I9, q9⟩ => ?_
      have fin : ∀ {s' : Shared} {H' : Hp}, Inv (X.blk s3 H3 scope ce fp) ([] ++ pinsAt fp s7.heap) σ8 H' s' → Nx H' → ∃ m, m < n ∧ ∃ i H', Inv (X.blk s3 H3 scope ce fp) [] (wipe σ (own.map (·.2))) H' s' ∧ tn i s'.heap ∧ (∀ b ∈ fp, H' b = none) ∧ W i m H' := fun {s' H'} I' nx => by
        obtain ⟨m', hm, w'⟩ := hNx H' nx
        have pin' : ∀ b ∈ fp, ∀ o, s7.heap.get? b = some o → s'.heap.get? b = some o ∧ H' b = none := fun b hb o e =>
          have z := I'.pin (b, o) (List.mem_append_right _ (List.mem_append_right _ (mem_pinsAt hb e)))
          ⟨z.1, z.2.1⟩
        refine ⟨m', hm, i + 1, H', (I'.unpinned (pins := [])).weak (by rw [← hw8, wipe_length]) (fun j v e => ?_), T.keep _ _ _ st7 fun b hb o e => (pin' b hb o e).1, fun b hb => ?_, w'⟩
        · rw [← hw8] at e
          exact (wipe_some e).1
        · obtain ⟨o, e, _⟩ := T.obj _ _ st7 b hb
          exact (pin' b hb o e).2
      cases b with
      | false =>
        simp only [Bool.false_eq_true, if_false] at q9 ⊢
        exact fin I9 q9
      | true =>
        simp only [if_true] at q9 ⊢
        refine thnF (pe.run _ s9 σ8 H9 _ I9 q9) fun z s10 ⟨yv, H10, I10, r10, acc, hD10, hz10, nx⟩ => ?_
        exact app_ok (X := X.blk s3 H3 scope ce fp) I10 hD10 hz10 r10 fun s11 I11 => fin I11 nx
  exact codeAny_compStart_list loop (T.self X.A 0 _ _ _ st4 loop)
end
/-- the suite of an error whose context is None bears it -/
theorem hot_suite {X : Cx} {a : Addr} {cls : Value} {d : Option Addr} {oe : Obj} {pn : List (Addr × Obj)} (hz : L2N.Zn cls d oe) (hf : ∃ vs, oe.data = .fields vs) : HotC (X.suite a ((a, oe) :: pn)) := by
  obtain ⟨vs, hv⟩ := hf
  exact ⟨(a, oe), ⟨rfl, vs, hv, hz.2.2 _ hv⟩, List.mem_cons_self⟩
end PA

set_option Elab.async false
set_option linter.all false
set_option maxRecDepth 100000
set_option maxHeartbeats 4000000
/-! sets of tuples of whole numbers, of any number: what adding does is reckoned by a plain function over the table and the rows, whatever they are -/
namespace PA
open PySem PySem.Spec PyProof.Rows L2
/-! ### the plain functions -/
def hashT (k : List Int) : Int := reduceHash (Builtin.Tuple.tupleHashOf (k.map hashInt))
/-- none: there; some j: free at the slot j -/
def srch (t : SetTable) (hk : List (Int × List Int)) (k : List Int) (h : Int) : Nat → Option SetTable.Probe → Option (Option Nat)
  | 0, _ => none
  | f + 1, stand => match t.probe (fun i => (hk[i]?.map (·.1)).getD 0) h (stand.getD (t.probeStart h)) with
    | some (.empty j none) => some (some j)
    | some (.candidate j i next) => match hk[i]? with
      | some e => if e.2 = k then some none else if t.slot j = .live i then srch t hk k h f (some next) else none
      | none => none
    | _ => none
/-- a table and its rows: a mark, the hash, the numbers -/
structure Rws (α : Type) where
  t : SetTable
  L : List (α × Int × List Int)
  deriving DecidableEq
def fine (t : SetTable) (n : Nat) : Bool := t.fits n && t.mask % 2 == 1 && t.plain && decide (n < 4000)
def addP {α : Type} (s : Rws α) (x : α × Int × List Int) : Option (Rws α) :=
  if fine s.t s.L.length = true then
    match srch s.t (s.L.map (·.2)) x.2.2 x.2.1 100 none with
    | none => none
    | some none => some s
    | some (some j) =>
      if (s.t.put j).1.plain = true then
        if (s.t.put j).1.tooFull = true then
          if (s.t.put j).1.fits (s.L.length + 1) = true ∧ SetTable.sizeAbove (SetTable.grown (s.L.length + 1)) ≤ 100000 then
            match (s.t.put j).1.relaid ((s.L.take (s.t.put j).2 ++ x :: s.L.drop (s.t.put j).2).map (·.2.1)).toArray (SetTable.grown (s.L.length + 1)) with
            | none => none
            | some r => if (r.2.toList.filterMap ((s.L.take (s.t.put j).2 ++ x :: s.L.drop (s.t.put j).2)[·]?)).length = s.L.length + 1 then some ⟨r.1, r.2.toList.filterMap ((s.L.take (s.t.put j).2 ++ x :: s.L.drop (s.t.put j).2)[·]?)⟩ else none
          else none
        else some ⟨(s.t.put j).1, s.L.take (s.t.put j).2 ++ x :: s.L.drop (s.t.put j).2⟩
      else none
  else none
def foldP {α : Type} : Rws α → List (α × Int × List Int) → Option (Rws α)
  | s, [] => some s
  | s, x :: xs => match addP s x with
    | none => none
    | some s' => foldP s' xs
theorem foldP_cons {α : Type} {s s2 : Rws α} {x : α × Int × List Int} {xs : List (α × Int × List Int)} (h : foldP s (x :: xs) = some s2) : ∃ s1, addP s x = some s1 ∧ foldP s1 xs = some s2 := by
  unfold foldP at h
  cases e : addP s x with
  | none => rw [e] at h; cases h
  | some s1 =>
    rw [e] at h
    exact ⟨s1, rfl, h⟩
/-! ### whether the order is led by the world says nothing to them -/
def ledAs (b : Bool) (t : SetTable) : SetTable := { t with led := b }
theorem probe_led (b : Bool) (t : SetTable) (f : Nat → Int) (h : Int) : ∀ (n : Nat) (p : SetTable.Probe), SetTable.probe.go (ledAs b t) f h n p = SetTable.probe.go t f h n p
  | 0, _ => rfl
  | n + 1, p => by
    unfold SetTable.probe.go
    have e : (ledAs b t).slot p.j = t.slot p.j := rfl
    rw [e]
    cases t.slot p.j with
    | empty => rfl
    | dummy => exact probe_led b t f h n _
    | live i =>
      dsimp only
      split
      · rfl
      · exact probe_led b t f h n _
theorem relaid_led (b : Bool) (t : SetTable) (hs : Array Int) (n : Nat) : (ledAs b t).relaid hs n = (t.relaid hs n).map fun r => (ledAs b r.1, r.2) := by
  unfold SetTable.relaid SetTable.laid
  cases SetTable.layClean (SetTable.sizeAbove n - 1) hs with
  | none => rfl
  | some o => rfl
/-! ### marks -/
def mk2 {α β : Type} (g : α → β) (x : α × Int × List Int) : β × Int × List Int := (g x.1, x.2)
def Rws.map {α β : Type} (g : α → β) (s : Rws α) : Rws β := ⟨s.t, s.L.map (mk2 g)⟩
theorem addP_map {α β : Type} (g : α → β) (s : Rws α) (x : α × Int × List Int) : addP (s.map g) (mk2 g x) = (addP s x).map (Rws.map g) := by
  have e1 : (s.map g).L.map (·.2) = s.L.map (·.2) := by
    show (s.L.map (mk2 g)).map (·.2) = _
    rw [List.map_map]
    rfl
  have e2 : (s.map g).L.length = s.L.length := List.length_map ..
  have e3 : ∀ p, (s.map g).L.take p ++ mk2 g x :: (s.map g).L.drop p = (s.L.take p ++ x :: s.L.drop p).map (mk2 g) := fun p => by
    rw [List.map_append, List.map_cons, List.map_take, List.map_drop]
    rfl
  have e4 : ∀ l : List (α × Int × List Int), (l.map (mk2 g)).map (·.2.1) = l.map (·.2.1) := fun l => by
    rw [List.map_map]
    rfl
  have e5 : ∀ (o : List Nat) (l : List (α × Int × List Int)), o.filterMap ((l.map (mk2 g))[·]?) = (o.filterMap (l[·]?)).map (mk2 g) := fun o l => by
    rw [List.map_filterMap]
    congr 1
    funext i
    exact List.getElem?_map ..
  have et : (s.map g).t = s.t := rfl
  have ex : (mk2 g x).2 = x.2 := rfl
  unfold addP
  rw [e1, e2, et, ex]
  split
  · cases srch s.t (s.L.map (·.2)) x.2.2 x.2.1 100 none with
    | none => rfl
    | some r =>
      cases r with
      | none => rfl
      | some j =>
        dsimp only
        rw [e3, e4]
        split
        · split
          · split
            · cases (s.t.put j).1.relaid ((s.L.take (s.t.put j).2 ++ x :: s.L.drop (s.t.put j).2).map (·.2.1)).toArray (SetTable.grown (s.L.length + 1)) with
              | none => rfl
              | some r =>
                dsimp only
                rw [e5, List.length_map]
                split <;> rfl
            · rfl
          · rfl
        · rfl
  · rfl
theorem foldP_map {α β : Type} (g : α → β) : ∀ (xs : List (α × Int × List Int)) (s : Rws α), foldP (s.map g) (xs.map (mk2 g)) = (foldP s xs).map (Rws.map g)
  | [], _ => rfl
  | x :: xs, s => by
    show (match addP (s.map g) (mk2 g x) with | none => none | some s' => foldP s' (xs.map (mk2 g))) = _
    rw [addP_map, show foldP s (x :: xs) = (match addP s x with | none => none | some s' => foldP s' xs) from rfl]
    cases addP s x with
    | none => rfl
    | some s' => exact foldP_map g xs s'
theorem foldP_app {α : Type} : ∀ (xs ys : List (α × Int × List Int)) (s s' s2 : Rws α), foldP s xs = some s' → foldP s' ys = some s2 → foldP s (xs ++ ys) = some s2
  | [], _, _, _, _, h, h2 => by
    cases h
    exact h2
  | x :: xs, ys, s, s', s2, h, h2 => by
    unfold foldP at h
    show (match addP s x with | none => none | some s' => foldP s' (xs ++ ys)) = _
    cases e : addP s x with
    | none => rw [e] at h; cases h
    | some s1 =>
      rw [e] at h
      exact foldP_app xs ys s1 s' s2 h h2
/-! ### the set's object -/
theorem hashT_is (P : Program) (w : World) (k : List Int) : thash P w k = hashT k := rfl
structure SetS (P : Program) (w : World) (h : Heap) (a : Addr) (b : Bool) (S : Rws Addr) : Prop where
  ob : ∃ o es ep, h.get? a = some o ∧ o.ExactSet ∧ o.data = .set es ep (ledAs b S.t) ∧ es.toList = S.L.map fun p => (p.2.1, Value.ref p.1)
  tup : ∀ p ∈ S.L, IsT P w h p.2.2 p.1 ∧ p.2.1 = hashT p.2.2
section
variable {P : Program} {w : World} {A : Around} {E : Value → Shared → Prop} {s : Shared} {a : Addr} {b : Bool} {S : Rws Addr}
theorem row_at {es : Array (Int × Value)} (hr : es.toList = S.L.map fun p => (p.2.1, Value.ref p.1)) (i : Nat) : es[i]? = (S.L[i]?).map fun p => (p.2.1, Value.ref p.1) := by
  rw [← Array.getElem?_toList, hr, List.getElem?_map]
theorem search_sim (R : SetS P w s.heap a b S) (hfi : S.t.fits S.L.length = true) (hodd : S.t.mask % 2 = 1) {x : Addr} {k : List Int} (hx : IsT P w s.heap k x) (hu : A.units < cLine) {Q : SetFound → Shared → Prop} (r : Option Nat) (hin : r = none → Q (.there none) s) (hout : ∀ j, r = some j → Q (.free j false) s) (m : Nat) :
    ∀ (f : Nat) (stand : Option SetTable.Probe), srch S.t (S.L.map (·.2)) k (hashT k) f stand = some r → wpAny (model P w) A (setSearchFrom a (.ref x) (hashT k) true (f + m) stand) Q E s
  | 0, _, h => by cases h
  | f + 1, stand, h => by
    obtain ⟨o, es, ep, ho, hex, hd, hr⟩ := R.ob
    have hsz : es.size = S.L.length := by
      have z := congrArg List.length hr
      rw [Array.length_toList, List.length_map] at z
      exact z
    have hf : (ledAs b S.t).fits es.size = true := by
      rw [hsz]
      exact hfi
    have hfun : (fun (i : Nat) => (es[i]?.map (fun (e : Int × Value) => e.1)).getD 0) = fun (i : Nat) => (((S.L.map (fun (p : Addr × Int × List Int) => p.2))[i]?).map (fun (e : Int × List Int) => e.1)).getD 0 := by
      funext i
      rw [row_at hr, List.getElem?_map, Option.map_map, Option.map_map]
      rfl
    rw [show f + 1 + m = (f + m) + 1 by omega, setSearchFrom_succ]
    refine wpAny_bind (wpAny_setState_of ho hd hf ?_)
    dsimp only
    refine wp_if_neg (by unfold SetTable.gaveWay; show ¬ (S.t.mask % 2 == 0) = true; rw [hodd]; decide) ?_
    try refine wpAny_bind (wpAny_pure ?_)
    have hpr : (ledAs b S.t).probe (fun i => (es[i]?.map (·.1)).getD 0) (hashT k) (stand.getD ((ledAs b S.t).probeStart (hashT k))) = S.t.probe (fun i => (((S.L.map (·.2))[i]?).map (·.1)).getD 0) (hashT k) (stand.getD (S.t.probeStart (hashT k))) := by
      rw [hfun]
      exact probe_led b S.t _ _ _ _
    rw [hpr]
    unfold srch at h
    cases hm : S.t.probe (fun i => (((S.L.map (·.2))[i]?).map (·.1)).getD 0) (hashT k) (stand.getD (S.t.probeStart (hashT k))) with
    | none => rw [hm] at h; cases h
    | some met =>
      rw [hm] at h
      cases met with
      | empty j dm =>
        cases dm with
        | some d => cases h
        | none =>
          cases h
          dsimp only
          exact wpAny_pure (hout j rfl)
      | candidate j i next =>
        dsimp only at h ⊢
        rw [List.getElem?_map] at h
        cases hp : S.L[i]? with
        | none => rw [hp] at h; cases h
        | some p =>
          rw [hp] at h
          have h : (if p.2.2 = k then some none else if S.t.slot j = .live i then srch S.t (S.L.map (·.2)) k (hashT k) f (some next) else none) = some r := h
          have hmem : p ∈ S.L := List.mem_of_getElem? hp
          have hent : es[i]? = some (p.2.1, Value.ref p.1) := by rw [row_at hr, hp]; rfl
          have rest : wpAny (model P w) A (searchRest a (.ref x) (hashT k) true (f + m) es (ledAs b S.t) j i next) Q E s := by
            unfold searchRest
            rw [hent]
            dsimp only
            refine wpAny_bind (wpAny_holding (wpAny_eqBool_tuple hu (R.tup p hmem).1 hx ?_))
            refine wpAny_bind (wpAny_setState_of ho hd hf ?_)
            dsimp only
            by_cases hkk : p.2.2 = k
            · rw [if_pos hkk] at h
              cases h
              exact wp_if_pos (by simp [hkk]) (wpAny_pure (hin rfl))
            · rw [if_neg hkk] at h
              refine wp_if_neg (by simp [hkk]) ?_
              try refine wpAny_bind (wpAny_pure ?_)
              by_cases hsl : S.t.slot j = .live i
              · rw [if_pos hsl] at h
                have hsl' : (ledAs b S.t).slot j = .live i := hsl
                rw [sameMem]
                dsimp only
                simp only [if_true, hsl', hent]
                refine wpAny_bind (wpAny_isSame_ref_self (wpAny_bind (wpAny_pure ?_)))
                simp only [if_true]
                refine wp_if_neg (by simp [hkk]) ?_
                exact search_sim R hfi hodd hx hu r hin hout m f (some next) h
              · rw [if_neg hsl] at h
                cases h
          by_cases hl : b = true
          · refine wp_if_neg (by show ¬ (!b) = true; simp [hl]) ?_
            try refine wpAny_bind (wpAny_pure ?_)
            exact rest
          · refine wp_if_pos (by show (!b) = true; simp [hl]) ?_
            refine wpAny_bind (seen_tup hx (fun y hy => ?_) ?_)
            · obtain ⟨e, he, ee⟩ := List.mem_map.mp hy
              have he1 : e ∈ es ∧ e.1 = hashT k := by simpa using he
              have he2 : e ∈ es.toList := by simpa using he1.1
              rw [hr] at he2
              obtain ⟨p2, hp2, e2⟩ := List.mem_map.mp he2
              exact ⟨p2.2.2, p2.1, by rw [← ee, ← e2], (R.tup p2 hp2).1⟩
            · refine wp_if_neg (by decide) ?_
              try refine wpAny_bind (wpAny_pure ?_)
              exact rest
theorem isT_but {h h' : Heap} {k : List Int} {c : Addr} {o : Obj} {es : Array (Int × Value)} {ep : Nat} {t : SetTable} (hb : IsT P w h k c) (ho : h.get? a = some o) (hd : o.data = .set es ep t) (hs : Heap.SameBut a h h') : IsT P w h' k c := isT_same hb ho hd hs
theorem fine_of {t : SetTable} {n : Nat} (h : fine t n = true) : t.fits n = true ∧ t.mask % 2 = 1 ∧ t.plain = true ∧ n < 4000 := by
  unfold fine at h
  simp only [Bool.and_eq_true, decide_eq_true_eq, beq_iff_eq] at h
  exact ⟨h.1.1.1, h.1.1.2, h.1.2, h.2⟩
/-- the table laid anew, as the plain function says -/
theorem relay_sim {L1 : List (Addr × Int × List Int)} {t1 : SetTable} {o : Obj} {es : Array (Int × Value)} {ep : Nat} (ho : s.heap.get? a = some o) (hex : o.ExactSet) (hd : o.data = .set es ep (ledAs b t1)) (hr : es.toList = L1.map fun p => (p.2.1, Value.ref p.1)) (tup : ∀ p ∈ L1, IsT P w s.heap p.2.2 p.1 ∧ p.2.1 = hashT p.2.2)
    (hfi : t1.fits L1.length = true) (hlen : L1.length ≤ 4000) {wanted : Nat} (hw : SetTable.sizeAbove wanted ≤ 100000) {r : SetTable × Array Nat} (hrl : t1.relaid (L1.map (·.2.1)).toArray wanted = some r) (hl : (r.2.toList.filterMap (L1[·]?)).length = L1.length) {Q : Unit → Shared → Prop}
    (hQ : ∀ h', Heap.SameBut a s.heap h' → SetS P w h' a b ⟨r.1, r.2.toList.filterMap (L1[·]?)⟩ → Q () { s with heap := h' }) : wpAny (model P w) A (setRelay a wanted) Q E s := by
  have hsz : es.size = L1.length := by
    have z := congrArg List.length hr
    rw [Array.length_toList, List.length_map] at z
    exact z
  have hf : (ledAs b t1).fits es.size = true := by
    rw [hsz]
    exact hfi
  have hmap : es.map (·.1) = (L1.map (·.2.1)).toArray := by
    apply Array.ext'
    rw [Array.toList_map, hr, List.map_map]
    rfl
  have hrel : (ledAs b t1).relaid (es.map (·.1)) wanted = some (ledAs b r.1, r.2) := by
    rw [hmap, relaid_led, hrl]
    rfl
  have hfm : (r.2.filterMap (es[·]?)).toList = (r.2.toList.filterMap (L1[·]?)).map fun p => (p.2.1, Value.ref p.1) := by
    rw [Array.toList_filterMap, List.map_filterMap]
    congr 1
    funext i
    rw [← Array.getElem?_toList, hr, List.getElem?_map]
  have hsz2 : (r.2.filterMap (es[·]?)).size = es.size := by
    have z := congrArg List.length hfm
    rw [Array.length_toList, List.length_map, hl] at z
    rw [z, hsz]
  rw [setRelay_eq]
  refine wpAny_bind (wpAny_setState_of ho hd hf ?_)
  dsimp only
  refine wp_if_neg (by rw [sizeLine_eq]; omega) ?_
  try refine wpAny_bind (wpAny_pure ?_)
  rw [hrel]
  dsimp only
  refine wpAny_bind ?_
  refine wp_if_neg (by rw [hsz2]; simp) ?_
  try refine wpAny_bind (wpAny_pure ?_)
  refine wpAny_pure ?_
  dsimp only
  refine wpAny_storeSet_of ho hd ?_ (by rw [hsz2, hsz, sizeLine_eq]; omega)
  have sb : Heap.SameBut a s.heap (s.heap.update a (Obj.putSet (r.2.filterMap (es[·]?)) (ledAs b r.1))) := Heap.SameBut.update ..
  refine hQ _ sb ⟨⟨_, _, _, store_at ho hd, ⟨hex.1, hex.2.1, hex.2.2⟩, rfl, hfm⟩, fun p hp => ?_⟩
  obtain ⟨i, _, hi⟩ := List.mem_filterMap.mp hp
  have q := tup p (List.mem_of_getElem? hi)
  exact ⟨isT_but q.1 ho hd sb, q.2⟩
/-- adding, as the plain function says -/
theorem add_sim (R : SetS P w s.heap a b S) {x : Addr} {k : List Int} (hx : IsT P w s.heap k x) (hu : A.units < cLine) {S' : Rws Addr} (h : addP S (x, hashT k, k) = some S') {Q : Bool → Shared → Prop} (hQ : ∀ c h', Heap.SameBut a s.heap h' → SetS P w h' a b S' → Q c { s with heap := h' }) :
    wpAny (model P w) A (setAddHashed a (.ref x) (hashT k)) Q E s := by
  unfold addP at h
  split at h
  · rename_i hfine
    obtain ⟨f1, f2, f3, f4⟩ := fine_of hfine
    obtain ⟨o, es, ep, ho, hex, hd, hr⟩ := R.ob
    have hsz : es.size = S.L.length := by
      have z := congrArg List.length hr
      rw [Array.length_toList, List.length_map] at z
      exact z
    have hf : (ledAs b S.t).fits es.size = true := by
      rw [hsz]
      exact f1
    unfold setAddHashed
    refine wpAny_holding ?_
    rw [show (100000 : Nat) = 99999 + 1 from rfl, setAddHashedIn_succ]
    refine wpAny_bind (wpAny_setState_of ho hd hf ?_)
    dsimp only
    refine wp_if_neg (by simp [byScan, Value.scannable]) ?_
    try refine wpAny_bind (wpAny_pure ?_)
    dsimp only at h
    cases hs : srch S.t (S.L.map (·.2)) k (hashT k) 100 none with
    | none => rw [hs] at h; cases h
    | some r =>
      rw [hs] at h
      unfold setSearch
      refine wpAny_bind (search_sim R f1 f2 hx hu r (fun e => ?_) (fun j e => ?_) 99900 100 none hs)
      · subst e
        cases h
        dsimp only
        exact wpAny_pure (hQ false s.heap (Heap.SameBut.refl a s.heap) R)
      · subst e
        dsimp only at h ⊢
        refine wpAny_bind (wpAny_setState_of ho hd hf ?_)
        dsimp only
        split at h
        · rename_i hp1
          have hput : (ledAs b S.t).put j = (ledAs b (S.t.put j).1, (S.t.put j).2) := rfl
          rw [hput]
          generalize hpt : S.t.put j = pt at h hp1 ⊢
          obtain ⟨t1, p⟩ := pt
          dsimp only at h hp1 ⊢
          have hp2 : (ledAs b t1).plain = true := hp1
          first
            | (refine wpAny_bind ?_; refine wp_if_pos hp2 ?_; refine hashBy_tup hx ?_)
            | refine wp_if_pos hp2 (wpAny_bind (hashBy_tup hx ?_))
          simp only [if_true]
          have hin : (SetTable.insertAt es p (hashT k, Value.ref x)).toList = (S.L.take p ++ (x, hashT k, k) :: S.L.drop p).map fun q => (q.2.1, Value.ref q.1) := by
            rw [SetTable.toList_insertAt, hr, List.map_append, List.map_cons, List.map_take, List.map_drop]
          have pm : (S.L.take p ++ (x, hashT k, k) :: S.L.drop p).Perm ((x, hashT k, k) :: S.L) := put_perm S.L p (x, hashT k, k)
          have hlen : (S.L.take p ++ (x, hashT k, k) :: S.L.drop p).length = S.L.length + 1 := pm.length_eq
          have hes : (SetTable.insertAt es p (hashT k, Value.ref x)).size = S.L.length + 1 := by
            have z := congrArg List.length hin
            rw [Array.length_toList, List.length_map, hlen] at z
            exact z
          generalize SetTable.insertAt es p (hashT k, Value.ref x) = es1 at hin hes ⊢
          generalize S.L.take p ++ (x, hashT k, k) :: S.L.drop p = L1 at pm hlen hin h
          refine wpAny_bind (wpAny_storeSet_of ho hd ?_ (by rw [hes, sizeLine_eq]; omega))
          have sb : Heap.SameBut a s.heap (s.heap.update a (Obj.putSet es1 (ledAs b t1))) := Heap.SameBut.update ..
          have ho1 := store_at (es' := es1) (t' := ledAs b t1) ho hd
          generalize s.heap.update a (Obj.putSet es1 (ledAs b t1)) = h1 at sb ho1 ⊢
          have tup1 : ∀ q ∈ L1, IsT P w h1 q.2.2 q.1 ∧ q.2.1 = hashT q.2.2 := fun q hq => by
            rcases List.mem_cons.mp (pm.mem_iff.mp hq) with e | hq
            · rw [e]
              exact ⟨isT_but hx ho hd sb, rfl⟩
            · exact ⟨isT_but (R.tup q hq).1 ho hd sb, (R.tup q hq).2⟩
          by_cases hfull : t1.tooFull = true
          · rw [if_pos hfull] at h
            have hfull' : (ledAs b t1).tooFull = true := hfull
            first
              | (refine wpAny_bind ?_; refine wp_if_pos (by simp [hfull']) ?_)
              | (refine wp_if_pos (by simp [hfull']) ?_; refine wpAny_bind ?_)
            rw [hsz]
            split at h
            · rename_i hg
              split at h
              · cases h
              · rename_i r hrl
                split at h
                · rename_i hl
                  cases h
                  refine relay_sim (s := { s with heap := h1 }) (L1 := L1) (t1 := t1) ho1 ⟨hex.1, hex.2.1, hex.2.2⟩ rfl hin tup1 (by rw [hlen]; exact hg.1) (by omega) hg.2 hrl (by rw [hl, hlen]) fun h2 sb2 R2 => ?_
                  exact wpAny_pure (hQ true h2 (sb.trans sb2) R2)
                · cases h
            · cases h
          · rw [if_neg hfull] at h
            have hfull' : ¬ (ledAs b t1).tooFull = true := hfull
            cases h
            first
              | refine wp_if_neg (by simp [hfull']) ?_
              | (refine wpAny_bind ?_; refine wp_if_neg (by simp [hfull']) ?_; refine wpAny_pure ?_)
            exact wpAny_pure (hQ true h1 sb ⟨⟨_, _, _, ho1, ⟨hex.1, hex.2.1, hex.2.2⟩, rfl, hin⟩, tup1⟩)
        · cases h
  · cases h
theorem SetS.keep {h h' : Heap} (R : SetS P w h a b S) (ha : ∀ o, h.get? a = some o → h'.get? a = some o) (ht : ∀ p ∈ S.L, IsT P w h' p.2.2 p.1) : SetS P w h' a b S := by
  obtain ⟨o, es, ep, ho, r⟩ := R.ob
  exact ⟨⟨o, es, ep, ha o ho, r⟩, fun p hp => ⟨ht p hp, (R.tup p hp).2⟩⟩
/-- items with their hashes -/
def withH (ks : List (Addr × List Int)) : List (Addr × Int × List Int) := ks.map fun p => (p.1, hashT p.2, p.2)
theorem foldP_split {α : Type} {xs ys : List (α × Int × List Int)} {s0 s2 : Rws α} (h : foldP s0 (xs ++ ys) = some s2) : ∃ s1, foldP s0 xs = some s1 ∧ foldP s1 ys = some s2 := by
  induction xs generalizing s0 with
  | nil => exact ⟨s0, rfl, h⟩
  | cons x xs ih =>
    have h : (match addP s0 x with | none => none | some s' => foldP s' (xs ++ ys)) = some s2 := h
    cases e : addP s0 x with
    | none => rw [e] at h; cases h
    | some s' =>
      rw [e] at h
      obtain ⟨s1, e1, e2⟩ := ih h
      refine ⟨s1, ?_, e2⟩
      show (match addP s0 x with | none => none | some s' => foldP s' xs) = _
      rw [e]
      exact e1
theorem addP_mem {α : Type} {s0 s1 : Rws α} {x : α × Int × List Int} (h : addP s0 x = some s1) : ∀ p ∈ s1.L, p = x ∨ p ∈ s0.L := by
  have key : ∀ (n : Nat) (p : α × Int × List Int), p ∈ s0.L.take n ++ x :: s0.L.drop n → p = x ∨ p ∈ s0.L := fun n p hp => by
    rcases List.mem_append.mp hp with z | z
    · exact .inr (List.mem_of_mem_take z)
    · rcases List.mem_cons.mp z with z | z
      · exact .inl z
      · exact .inr (List.mem_of_mem_drop z)
  unfold addP at h
  split at h
  · split at h
    · cases h
    · cases h
      exact fun p hp => .inr hp
    · split at h
      · split at h
        · split at h
          · split at h
            · cases h
            · split at h
              · cases h
                intro p hp
                obtain ⟨i, _, hi⟩ := List.mem_filterMap.mp hp
                exact key _ p (List.mem_of_getElem? hi)
              · cases h
          · cases h
        · cases h
          exact fun p hp => key _ p hp
      · cases h
  · cases h
theorem foldP_mem {α : Type} : ∀ (xs : List (α × Int × List Int)) {s0 s1 : Rws α}, foldP s0 xs = some s1 → ∀ p ∈ s1.L, p ∈ xs ∨ p ∈ s0.L
  | [], _, _, h, p, hp => by
    cases h
    exact .inr hp
  | x :: xs, s0, s1, h, p, hp => by
    have h : (match addP s0 x with | none => none | some s' => foldP s' xs) = some s1 := h
    cases e : addP s0 x with
    | none => rw [e] at h; cases h
    | some s' =>
      rw [e] at h
      rcases foldP_mem xs h p hp with z | z
      · exact .inl (List.mem_cons_of_mem _ z)
      · rcases addP_mem e p z with z | z
        · exact .inl (z ▸ List.mem_cons_self)
        · exact .inr z
/-- set.update's loop over items that the plain function takes -/
theorem update_sim {I : Addr} {fp wr : List Addr} {G : Array GenState → Array GenState → Prop} {n : Nat} {Pv : Nat → Value → Prop} {St : Nat → Shared → Prop} {R : Result → Shared → Prop}
    (W : WalksS P w A.in1 I fp wr G n Pv St) (a : Addr) (b : Bool) (hSf : a ∉ fp) (ks : List (Addr × List Int)) (hn : n = ks.length) (hval : ∀ i v, Pv i v → ∃ p, ks[i]? = some p ∧ v = .ref p.1)
    (h0 : Heap) (hk : ∀ p ∈ ks, IsT P w h0 p.2 p.1) (hS0 : h0.get? a = none) (hw0 : ∀ c ∈ wr, h0.get? c = none) (hu : A.in1.units < cLine) {Send : Rws Addr} :
    ∀ (k i : Nat) (s : Shared) (S : Rws Addr), n - i = k → i ≤ n → St i s → (∀ c o, h0.get? c = some o → s.heap.get? c = some o) → SetS P w s.heap a b S → (∀ p ∈ S.L, (p.1, p.2.2) ∈ ks) → foldP S (withH (ks.drop i)) = some Send →
      (∀ s', Moved (a :: wr) G s s' → SetS P w s'.heap a b Send → (∀ c o, h0.get? c = some o → s'.heap.get? c = some o) → R (.ok (.ret .none)) s') →
      codeAny (model P w) A (.builtin "set.update.loop" ⟨[.ref a, .ref I], []⟩) R s := by
  have hSw : a ∉ wr := fun h => hSf (W.sub _ h)
  have hsub : ∀ c ∈ wr, c ∈ a :: wr := fun c hc => List.mem_cons_of_mem _ hc
  have keepM : ∀ {s s' : Shared}, Moved wr G s s' → (∀ c o, h0.get? c = some o → s.heap.get? c = some o) → ∀ c o, h0.get? c = some o → s'.heap.get? c = some o := fun hm hkp c o e =>
    hm.heap c o (fun hc => by rw [hw0 c hc] at e; cases e) (hkp c o e)
  intro k
  induction k with
  | zero =>
    intro i s S hk' hi hst hkp hS hmem hfold hR
    have hin : i = n := by omega
    subst hin
    rw [List.drop_of_length_le (by omega)] at hfold
    cases hfold
    refine codeAny_builtin F.entry_set_update_loop ?_
    rw [Around.under_plainId F.plain_set_update_loop _]
    show wpAny _ A.in1 (pyNext (.ref I) >>= _) _ _ s
    refine wpAny_bind (W.done s _ _ hst fun s' hm => ?_)
    show wpAny _ A.in1 (ret Value.none) _ _ s'
    have hkp' := keepM hm hkp
    exact wpAny_pure (hR s' (hm.mono hsub) (hS.keep (fun o e => hm.heap a o hSw e) fun p hp => isT_keep (hk _ (hmem p hp)) hkp') hkp')
  | succ k ih =>
    intro i s S hk' hi hst hkp hS hmem hfold hR
    have hlt : i < n := by omega
    refine codeAny_builtin F.entry_set_update_loop ?_
    rw [Around.under_plainId F.plain_set_update_loop _]
    show wpAny _ A.in1 (pyNext (.ref I) >>= _) _ _ s
    refine wpAny_bind (W.item i s _ _ hlt hst fun v s' hP hst' hm => ?_)
    obtain ⟨p, hp, rfl⟩ := hval i v hP
    have hkp' := keepM hm hkp
    have hS' : SetS P w s'.heap a b S := hS.keep (fun o e => hm.heap a o hSw e) fun q hq => isT_keep (hk _ (hmem q hq)) hkp'
    have hpm := List.mem_of_getElem? hp
    have hx : IsT P w s'.heap p.2 p.1 := isT_keep (hk p hpm) hkp'
    have hdr : ks.drop i = p :: ks.drop (i + 1) := by
      obtain ⟨hl, e⟩ := List.getElem?_eq_some_iff.mp hp
      rw [List.drop_eq_getElem_cons hl, e]
    rw [hdr, show withH (p :: ks.drop (i + 1)) = (p.1, hashT p.2, p.2) :: withH (ks.drop (i + 1)) from rfl] at hfold
    obtain ⟨S2, ea, hfold⟩ := foldP_cons hfold
    show wpAny _ A.in1 (holding [Value.ref p.1] (setAdd a (.ref p.1)) >>= _) _ _ s'
    refine wpAny_bind (wpAny_holding ?_)
    unfold setAdd
    refine wpAny_holding ?_
    refine wpAny_bind (wpAny_pyHash_tuple hu hx ?_)
    refine add_sim (s := { s' with toks := s'.toks + (p.2.length + 1) }) hS' hx hu ea fun c h' hsb hS2 => ?_
    have hkp2 : ∀ c o, h0.get? c = some o → h'.get? c = some o := fun c o e => (hsb.2 c (fun z => by rw [z, hS0] at e; cases e)).trans (hkp' c o e)
    have hmem2 : ∀ q ∈ S2.L, (q.1, q.2.2) ∈ ks := fun q hq => by
      rcases addP_mem ea q hq with z | z
      · rw [z]
        exact hpm
      · exact hmem q z
    refine wpAny_pure ⟨plainId_quiet F.plain_set_update_loop _, ih (i + 1) _ S2 (by omega) hlt (W.frame _ s' _ _ hst' (Nat.le_add_right _ _) fun c hc o e => ?_) hkp2 hS2 hmem2 hfold fun s'' hm'' hS'' hkp'' => ?_⟩
    · rw [hsb.2 c (fun h : c = a => hSf (by rw [← h]; exact hc))]
      exact e
    · refine hR s'' (Moved.trans W.gtrans ((hm.mono hsub).then_heap (Nat.le_add_right _ _) fun c o hc e => ?_) hm'') hS'' hkp''
      rw [hsb.2 c (fun h : c = a => hc (by rw [h]; exact List.mem_cons_self))]
      exact e
abbrev set0 (w : World) : Obj := { cls := .type "set", dict := none, data := .set #[] 0 (.fresh 0 0 (!w.params.followText "set-order")) }
def rws0 : Rws Addr := ⟨.fresh 0 0 true, []⟩
theorem setS_new {h : Heap} (ho : h.get? a = some (set0 w)) : SetS P w h a (!w.params.followText "set-order") rws0 :=
  ⟨⟨_, #[], 0, ho, ⟨rfl, rfl, rfl⟩, rfl, rfl⟩, fun _ z => nomatch z⟩
set_option maxHeartbeats 8000000 in
/-- set(a list of tuples) -/
theorem call_set_sim {l : Addr} {items : Array Value} (ks : List (Addr × List Int)) {Send : Rws Addr} {Q : Value → Shared → Prop} (hh : A.handled = none) (hl : s.heap.IsList l items) (hit : items.toList = ks.map fun p => Value.ref p.1) (hk : ∀ p ∈ ks, IsT P w s.heap p.2 p.1)
    (hfold : foldP rws0 (withH ks) = some Send) (hu : A.units + 3 < cLine)
    (h : ∀ (h' : Heap) (tk : Nat), SetS P w h' s.heap.objs.size (!w.params.followText "set-order") Send → (∀ c o, s.heap.get? c = some o → h'.get? c = some o) → Q (.ref s.heap.objs.size) { s with heap := h', toks := tk }) :
    wpAny (model P w) A (call (.type "set") [.ref l]) Q E s := by
  have hisz : items.size = ks.length := by
    have q := congrArg List.length hit
    rw [Array.length_toList, List.length_map] at q
    exact q
  obtain ⟨c, tl, hmro⟩ := F.called_set.mro
  have hmade := F.called_set.made
  have hsub := F.called_set.sub
  refine wpAny_call (codeAny_of_tree ?_)
  show wpAny _ _ (callAny (.type "set") _) _ _ _
  refine wpAny_pure ⟨Code.quiet_builtin _ (by decide +kernel), codeAny_builtin F.entry_type_call ?_⟩
  rw [Around.under_plain (weight_type_call_type "set" [.ref l] []) rfl]
  have h1 := F.called_set.notType
  have h2 := F.called_set.canCreate
  have hct := F.typeCall_set_1 (.ref l)
  repeat (any_goals (first | assumption | wp_step))
  refine codeAny_mono (code_set_led1 (.ref l) (E := E) (Q₁ := fun obj s₁ => obj = .ref s.heap.objs.size ∧ s₁ = { s with heap := s.heap.push (set0 w) }) ⟨rfl, rfl⟩) fun r s₁ hr => ?_
  cases r with
  | error e => exact hr
  | ok fl =>
    cases fl with
    | ret obj =>
      obtain ⟨rfl, rfl⟩ := hr
      have hS : (s.heap.push (set0 w)).get? s.heap.objs.size = some (set0 w) := Heap.get?_push_size _ rfl
      have hT : Shared.TypeIs { s with heap := s.heap.push (set0 w) } (.ref s.heap.objs.size) "set" := ⟨_, hS, rfl⟩
      have hli := F.called_set.init.lookup
      have hbi := F.called_set.init.bind (.ref s.heap.objs.size)
      repeat (any_goals (first | assumption | wp_step))
      refine codeAny_mono (codeAny_call_builtin (R := wants (fun r s₂ => r = .none ∧ ∃ h' tk, s₂ = { s with heap := h', toks := tk } ∧ SetS P w h' s.heap.objs.size (!w.params.followText "set-order") Send ∧ (∀ c o, s.heap.get? c = some o → h'.get? c = some o)) E) F.called_set.init.plain F.entry_set_init (check_set_init_1 hT ?_)) fun r₂ s₂ hr₂ => ?_
      · obtain ⟨ol, hol, hcl, nl, hdl⟩ := hl
        obtain ⟨ocls, odict, odata, oslots⟩ := ol
        simp only at hcl hdl
        subst hcl
        subst hdl
        have hol' : (s.heap.push (set0 w)).get? l = some { cls := .type "list", dict := odict, data := .seq items nl, slots := oslots } := Heap.get?_push_of_some _ hol
        have hsls := F.sub_list_set
        have hslf := F.sub_list_frozenset
        have hne : (Value.type "list" == Value.type "dict") = false := by decide
        have hl1 : (s.heap.push (set0 w)).IsList l items := ⟨_, hol', rfl, nl, rfl⟩
        unfold Builtin.«set.__init__» noKeywords Builtin.Frozenset.updateFrom
        generalize hPI : pyIter = PI
        wp_walk
        subst hPI
        refine wpAny_pyIter_list hl1 ?_
        refine wpAny_bind (wpAny_runValue ?_)
        have hlS : l < s.heap.objs.size := Heap.lt_size hol
        have hh3 : A.in1.in1.in1.handled = none := by simp [hh]
        have hneI : l ≠ (s.heap.push (set0 w)).objs.size := by
          rw [Heap.size_push]
          exact Nat.ne_of_lt (Nat.lt_succ_of_lt hlS)
        have hSf : s.heap.objs.size ∉ [(s.heap.push (set0 w)).objs.size, l] := by
          rw [Heap.size_push]
          simp only [List.mem_cons, List.mem_singleton, List.not_mem_nil, or_false, not_or]
          exact ⟨Nat.ne_of_lt (Nat.lt_succ_self _), Nat.ne_of_gt hlS⟩
        have hval : ∀ (i : Nat) (v : Value), items[i]? = some v → ∃ p, ks[i]? = some p ∧ v = .ref p.1 := fun i v hv => by
          rw [← Array.getElem?_toList, hit, List.getElem?_map] at hv
          cases hq : ks[i]? with
          | none => rw [hq] at hv; cases hv
          | some p =>
            rw [hq] at hv
            exact ⟨p, rfl, (Option.some.inj hv).symm⟩
        have none_of : ∀ c, s.heap.objs.size ≤ c → s.heap.get? c = none := fun c hc => by
          cases q : s.heap.get? c with
          | none => rfl
          | some o => exact absurd (Nat.lt_of_lt_of_le (Heap.lt_size q) hc) (Nat.lt_irrefl _)
        refine update_sim ((Walks.list hh3 _ l hneI items).toS) s.heap.objs.size (!w.params.followText "set-order") hSf ks hisz hval s.heap hk (none_of _ (Nat.le_refl _)) (fun c hc => none_of c (by
            rw [List.mem_singleton.mp hc, Heap.size_push]
            exact Nat.le_succ _)) hu (items.size - 0) 0 _ rws0 (by omega) (Nat.zero_le _)
          ⟨⟨_, Heap.get?_push_size _ rfl, rfl, rfl⟩, (hl1.push _)⟩ (fun c o e => Heap.get?_push_of_some _ (Heap.get?_push_of_some _ e)) (setS_new (Heap.get?_push_of_some _ hS)) (fun _ z => nomatch z) hfold ?hR
        case hR =>
          intro s' hm hS' hkp
          obtain ⟨h', g2, d', tk', os'⟩ := s'
          have eg : g2 = s.gens := hm.gens
          have ed : d' = s.drawn := hm.drawn
          have eo : os' = s.os := hm.os
          subst eg
          subst ed
          subst eo
          show wpAny _ _ _ _ _ _
          refine wpAny_pure ?_
          show wpAny _ _ (ret Value.none) _ _ _
          exact wpAny_pure ⟨rfl, h', tk', rfl, hS', hkp⟩
      · cases r₂ with
        | error e => exact hr₂
        | ok fl₂ =>
          cases fl₂ with
          | ret r =>
            obtain ⟨rfl, h', tk, rfl, hS', hk'⟩ := hr₂
            repeat (any_goals (first | assumption | wp_step))
            exact h _ _ hS' hk'
          | _ => exact hr₂.elim
    | _ => exact hr.elim
end
end PA

set_option Elab.async false
set_option linter.all false
set_option maxRecDepth 100000
set_option maxHeartbeats 4000000
namespace PA
open PySem PySem.Spec PyProof.Rows L2
/-! ### sorted(a set of tuples), of any number -/
section
variable {P : Program} {w : World} {A : Around} {E : Value → Shared → Prop} {s : Shared} {a : Addr} {b : Bool} {S : Rws Addr}
abbrev noStr : Nat → Bool := fun _ => false
theorem items_key : ∀ {k : List Int} {us : List Value} (i : Nat), ItemsAre (intKind P w) k us → ∃ l, tupItems noStr i us = some l
  | _, _, _, .nil => ⟨[], rfl⟩
  | _, _, i, .cons h1 r => by
    obtain ⟨t, rfl⟩ := Value.isInt_shape h1
    obtain ⟨l, e⟩ := items_key (i + 1) r
    have z : ∀ (n : Int) (t : Tok) (r : List Value), tupItems noStr i (.int n t :: r) = (tupItems noStr (i + 1) r).map (Sum.inl n :: ·) := fun n t r => rfl
    rw [z, e]
    exact ⟨_, rfl⟩
theorem isT_key {h : Heap} {k : List Int} {c : Addr} (x : IsT P w h k c) : ∃ l, G.tupKeyC h noStr (.ref c) = some l := by
  obtain ⟨o, items, n, ho, hc, hd, hi⟩ := x
  obtain ⟨l, e⟩ := items_key (P := P) (w := w) 0 hi
  refine ⟨l, ?_⟩
  unfold G.tupKeyC
  have ht : G.isTupObj h (.ref c) = true := by
    unfold G.isTupObj
    dsimp only
    rw [ho]
    dsimp only
    rw [hc]
    rfl
  rw [if_pos ht]
  unfold tupKey
  dsimp only
  rw [ho]
  dsimp only
  rw [hd]
  exact e
theorem isT_of {h : Heap} {k : List Int} {c : Addr} (x : IsT P w h k c) (hk : k ≠ []) : ∃ f, TupOf h noStr (.ref c) f := by
  obtain ⟨o, items, n, ho, hc, hd, hi⟩ := x
  obtain ⟨its⟩ := items
  cases hi with
  | nil => exact absurd rfl hk
  | cons h1 r =>
    obtain ⟨t, rfl⟩ := Value.isInt_shape h1
    exact ⟨_, c, o, _, n, rfl, ho, hc, hd, rfl, fun _ => ⟨_, t, rfl⟩, fun z => nomatch z⟩
theorem tups_of {h : Heap} : ∀ (vs : List Value), (∀ v ∈ vs, ∃ f, TupOf h noStr v f) → ∃ fs, TupsOf h noStr vs fs
  | [], _ => ⟨[], .nil⟩
  | v :: vs, hv => by
    obtain ⟨f, t⟩ := hv v List.mem_cons_self
    obtain ⟨fs, r⟩ := tups_of vs fun u hu => hv u (List.mem_cons_of_mem _ hu)
    exact ⟨f :: fs, .cons t r⟩
theorem out_perm {vs : List Value} {xs : Array Keyed} (h : xs.Perm (pairsOf vs)) : (xs.map (·.2)).toList.Perm vs := by
  have z := (Array.perm_iff_toList_perm.mp h).map Prod.snd
  rw [pairsOf_toList, List.map_snd_zip (Nat.le_refl _)] at z
  rw [Array.toList_map]
  exact z
theorem sorted_sim {Q : Value → Shared → Prop} (R : SetS P w s.heap a b S) (hh : A.handled = none) (hb : w.params.followText "set-order" = true ∨ b = true) (hris : Ris S.t.place.toList) (hfi : S.t.fits S.L.length = true) (hlen : S.L.length < 4000) (hne : ∀ p ∈ S.L, p.2.2 ≠ [])
    (hQ : ∀ s' p (out : Array Value) (c : Nat), (∀ d o, s.heap.get? d = some o → s'.heap.get? d = some o) → s'.gens = s.gens → s'.os = s.os → s.heap.objs.size ≤ p → s'.heap.get? p = some (seqObj "list" out c) → out.toList.Perm (S.L.map fun q => Value.ref q.1) → Q (.ref p) s') :
    wpAny (model P w) A (call (.builtin "sorted") [.ref a]) Q E s := by
  obtain ⟨o, es, ep, ho, hex, hd, hr⟩ := R.ob
  have hsz : es.size = S.L.length := by
    have z := congrArg List.length hr
    rw [Array.length_toList, List.length_map] at z
    exact z
  have hf : (ledAs b S.t).fits es.size = true := by
    rw [hsz]
    exact hfi
  refine Calls.call_function_entry kind_sorted plain_sorted entry_sorted (args_sorted1 _) ?_
  unfold Builtin.«sorted»
  refine wpAny_bind (m := checkCount "sorted" 1 1 _) (wpAny_pure ?_)
  refine wpAny_bind (collect_set (A := A.in1) hh ⟨o, ho, hex.1, hd⟩ hf (by unfold scanBound; omega) hris hb fun s1 vs k1 hz g1 o1 pm => ?_)
  have hes : es.toList.map (·.2) = S.L.map fun q => Value.ref q.1 := by
    rw [hr, List.map_map]
    rfl
  rw [hes] at pm
  have hvl : vs.length = S.L.length := by rw [pm.length_eq, List.length_map]
  refine wpAny_bind (wpAny_newList ?_ (by rw [sizeLine_eq]; omega))
  have hoL : (s1.heap.push (seqObj "list" vs.toArray 0)).get? s1.heap.objs.size = some (seqObj "list" vs.toArray 0) := Heap.get?_push_size _ rfl
  have at_ : ∀ v ∈ vs, ∃ q ∈ S.L, v = Value.ref q.1 ∧ IsT P w (s1.heap.push (seqObj "list" vs.toArray 0)) q.2.2 q.1 := fun v hv => by
    obtain ⟨q, hq, e⟩ := List.mem_map.mp (pm.mem_iff.mp hv)
    exact ⟨q, hq, e.symm, isT_keep (R.tup q hq).1 fun d u e => Heap.get?_push_of_some _ (k1 d u e)⟩
  obtain ⟨fs, ht⟩ := tups_of (h := s1.heap.push (seqObj "list" vs.toArray 0)) vs fun v hv => by
    obtain ⟨q, hq, e, x⟩ := at_ v hv
    rw [e]
    exact isT_of x (hne q hq)
  have hk : ∀ v, v ∈ vs → ∃ l, G.tupKeyC (s1.heap.push (seqObj "list" vs.toArray 0)) noStr v = some l := fun v hv => by
    obtain ⟨q, hq, e, x⟩ := at_ v hv
    rw [e]
    exact isT_key x
  refine wpAny_bind (wpAny_holding (wpAny_call_entry slot_list_sort ⟨_, hoL, rfl⟩ entry_list_sort (G.list_sort_tups (s := { s1 with heap := s1.heap.push (seqObj "list" vs.toArray 0) }) (shape := noStr) hoL ht hk (by rw [sizeLine_eq]; omega) fun st' h1 _ _ => ⟨_, rfl, ?_⟩) (args_list_sort _)))
  obtain ⟨c, hc⟩ := sortedHeap_at (vs := vs) (out := (arrOf st').map (·.2)) hoL
  refine wpAny_pure ⟨_, rfl, hQ _ s1.heap.objs.size _ c (fun d u e => ?_) g1 o1 hz hc ((out_perm h1).trans pm)⟩
  have q := k1 d u e
  have hlt := Heap.lt_size q
  show (sortedHeap (s1.heap.push (seqObj "list" vs.toArray 0)) s1.heap.objs.size vs _).get? d = some u
  rw [sortedHeap_old (Nat.ne_of_lt hlt) (by rw [size_push']; exact Nat.lt_succ_of_lt hlt)]
  exact Heap.get?_push_of_some _ q
end
/-! ### the rules -/
/-- the set at a, without the tuples themselves -/
def SetO (a : Addr) (b : Bool) (S : Rws Addr) : HO := .ext fun h => ∃ o es ep, h.get? a = some o ∧ o.ExactSet ∧ o.data = .set es ep (ledAs b S.t) ∧ es.toList = S.L.map fun p => (p.2.1, Value.ref p.1)
abbrev ledW (w : World) : Bool := !w.params.followText "set-order"
section
variable {X : Cx}
/-- set(xs), xs a list of tuples of whole numbers -/
def rSetP (K : PySem.W.Frag) (w : World) : List V → Hp → VK → Prop := fun xs H Q => ∃ (l : Addr) (ks : List (Addr × List Int)) (S : Rws Addr), xs = [V.ref l] ∧ SqL K H l (ks.map fun p => V.ref p.1) ∧ (∀ p ∈ ks, SqT K H p.1 (p.2.map V.int)) ∧ foldP rws0 (withH ks) = some S ∧
  ∀ a, H a = none → Q (.ref a) (upd H a (SetO a (ledW w) S))
theorem cr_setP (hc : X.calm = true) (hu : X.A.units + 64 < cLine) : CallR X (.type "set") (rSetP X.K X.w) := by
  intro pins s σ H xs us Q I r h
  obtain ⟨l, ks, S, rfl, hl, hk, hf, q⟩ := h
  rw [Vals.ref1 r]
  obtain ⟨its, rv, pl, hz⟩ := I.list hl
  have hn : H s.heap.objs.size = none := I.hok.fresh (Nat.le_refl _)
  refine call_set_sim (P := X.prog) (w := X.w) ks (I.ok.hd hc) pl.isList (by simpa using refs_of_vals rv) (fun p hp => I.isT (hk p hp)) hf (by omega) fun h' tk R k => ?_
  obtain ⟨o, es, ep, ho, rest⟩ := R.ob
  exact ⟨.ref s.heap.objs.size, upd H s.heap.objs.size (SetO s.heap.objs.size (ledW X.w) S), I.laid (t' := tk) (o := SetO s.heap.objs.size (ledW X.w) S) k (Nat.le_refl _) ⟨⟨o, es, ep, ho, rest⟩, ⟨o, ho⟩, fun h1 h2 ⟨o', es', ep', ho', r'⟩ st => ⟨o', es', ep', st _ ho', r'⟩⟩, rfl, q _ hn⟩
/-- sorted(such a set) -/
def rSortP (K : PySem.W.Frag) (w : World) : List V → Hp → VK → Prop := fun vs H Q => ∃ (a : Addr) (S : Rws Addr), vs = [V.ref a] ∧ H a = some (SetO a (ledW w) S) ∧ (∀ p ∈ S.L, SqT K H p.1 (p.2.2.map V.int) ∧ p.2.1 = hashT p.2.2 ∧ p.2.2 ≠ []) ∧ Ris S.t.place.toList ∧ S.t.fits S.L.length = true ∧ S.L.length < 4000 ∧
  ∀ (ys : List V) (p : Addr), ys.Perm (S.L.map fun q => V.ref q.1) → H p = none → Q (.ref p) (upd H p (.lst ys))
theorem vals_perm {ks : List (Addr × Int × List Int)} {us : List Value} (h : us.Perm (ks.map fun q => Value.ref q.1)) : ∃ ys : List V, ys.Perm (ks.map fun q => V.ref q.1) ∧ Vals ys us := by
  refine ⟨us.map bkV, ?_, bkV_vals fun u hu => ?_⟩
  · have z := h.map bkV
    rw [List.map_map] at z
    exact z
  · obtain ⟨q, _, e⟩ := List.mem_map.mp (h.mem_iff.mp hu)
    exact ⟨q.1, e.symm⟩
theorem cr_sortP (hc : X.calm = true) : CallR X (.builtin "sorted") (rSortP X.K X.w) := by
  intro pins s σ H vs us Q I r h
  obtain ⟨a, S, rfl, ha, hk, hris, hfi, hlen, q⟩ := h
  have R : SetS X.prog X.w s.heap a (ledW X.w) S := ⟨(I.hok a _ ha).1, fun p hp => ⟨I.isT (hk p hp).1, (hk p hp).2.1⟩⟩
  rw [Vals.ref1 r]
  refine sorted_sim R (I.ok.hd hc) (by unfold ledW; cases X.w.params.followText "set-order" <;> simp) hris hfi hlen (fun p hp => (hk p hp).2.2) fun s' p out c k g o hp hg pm => ?_
  obtain ⟨ys, py, hv⟩ := vals_perm pm
  have hn : H p = none := I.hok.fresh hp
  have hlen2 : ys.length ≤ sizeLine := by rw [py.length_eq, List.length_map, sizeLine_eq]; omega
  have J : Inv X pins σ (upd H p (.lst ys)) { s with heap := s'.heap, gens := s'.gens, drawn := s'.drawn, toks := s'.toks } :=
    I.call (ch := []) (Un.laid k hp hn) (I.hok.laid k hp ⟨hlen2, out.toList, c, hv, hg⟩) (by rw [g]; exact I.bare) (fun _ z => nomatch z)
  have e : s' = { s with heap := s'.heap, gens := s'.gens, drawn := s'.drawn, toks := s'.toks } := by
    cases s'
    cases s
    cases o
    rfl
  rw [e]
  exact ⟨.ref p, _, J, rfl, q ys p py hn⟩
end
end PA

set_option Elab.async false
set_option linter.all false
set_option maxRecDepth 100000
set_option maxHeartbeats 4000000
namespace PA
open PySem PySem.Spec PyProof.Rows L2
/-! ### sum(a list of lists, []) -/
abbrev lstO (xs : List Value) (n : Nat) : Obj := { cls := .type "list", data := .seq xs.toArray n }
theorem args_sum2 (a b : Value) : argsOk "sum" ⟨[a, b], []⟩ := by unfold argsOk; kernel_rfl
theorem sub_list_str : isSubtype (.type "list") (.type "str") = pure false := by rw [isSubtype_type]; kernel_rfl
theorem sub_list_bytes : isSubtype (.type "list") (.type "bytes") = pure false := by rw [isSubtype_type]; kernel_rfl
theorem sub_list_bytearray : isSubtype (.type "list") (.type "bytearray") = pure false := by rw [isSubtype_type]; kernel_rfl
theorem flat_take {ls : List (Addr × List Value)} {i : Nat} {p : Addr × List Value} (h : ls[i]? = some p) : (ls.take (i + 1)).flatMap (·.2) = (ls.take i).flatMap (·.2) ++ p.2 := by
  rw [List.take_succ, h, List.flatMap_append]
  simp
theorem flat_le {ls : List (Addr × List Value)} (i : Nat) : ((ls.take i).flatMap (·.2)).length ≤ (ls.flatMap (·.2)).length := by
  have e : ls.flatMap (·.2) = (ls.take i).flatMap (·.2) ++ (ls.drop i).flatMap (·.2) := by rw [← List.flatMap_append, List.take_append_drop]
  rw [e, List.length_append]
  omega
section
variable {prog : Program} {w : World} {A : Around} {E : Value → Shared → Prop} {R : Result → Shared → Prop} {I l S : Addr} {ls : List (Addr × List Value)} {items : Array Value}
theorem sumL_loop (hh : A.handled = none) (hit : items.toList = ls.map fun p => Value.ref p.1) (h0 : Heap) (hk : ∀ p ∈ ls, ∃ c, h0.get? p.1 = some (lstO p.2 c)) (hI0 : h0.get? I = none) (hS0 : h0.get? S = none) (hl0 : h0.IsList l items) (hIS : I ≠ S) (hfew : (ls.flatMap (·.2)).length ≤ 100000) (hne : 0 < ls.length) :
    ∀ (k i : Nat) (s : Shared) (T : Addr) (c d : Nat), ls.length - i = k → i ≤ ls.length → s.heap.IsListIter I l i → (∀ b o, h0.get? b = some o → s.heap.get? b = some o) → s.heap.get? S = some (lstO [.ref T] c) → s.heap.get? T = some (lstO ((ls.take i).flatMap (·.2)) d) → T ≠ S → T ≠ I → h0.objs.size ≤ s.heap.objs.size → i = 0 ∨ h0.objs.size ≤ T →
    (∀ h' tk T' d', (∀ b o, h0.get? b = some o → h'.get? b = some o) → h'.get? T' = some (lstO (ls.flatMap (·.2)) d') → h0.objs.size ≤ T' → R (.ok (.ret (.ref T'))) { s with heap := h', toks := tk }) →
    codeAny (model prog w) A (.builtin "sum.loop" ⟨[.ref I, .ref S, rawInt 2, rawInt 0], []⟩) R s := by
  have hisz : items.size = ls.length := by
    have q := congrArg List.length hit
    rw [Array.length_toList, List.length_map] at q
    exact q
  intro k
  induction k with
  | zero =>
    intro i s T c d hk' hi hst hkp hS hT hTS hTI hz hTf hR
    have hin : i = ls.length := by omega
    subst hin
    refine codeAny_builtin F.entry_sum_loop ?_
    rw [Around.under_plainId F.plain_sum_loop _]
    show wpAny _ A.in1 (seqItems? (.ref S) >>= _) _ _ s
    refine wpAny_bind (wpAny_seqItems hS rfl ?_)
    show wpAny _ A.in1 (tryCatch (pyNext (.ref I)) _ >>= _) _ _ s
    refine wpAny_bind (wpAny_tryCatch (wpAny_pyNext_list_end (by first | exact hh | simp [hh]) hst (hl0.at fun o e => hkp _ o e) (by simp; omega) fun h' hk2 => ?_))
    rw [List.take_of_length_le (Nat.le_refl _)] at hT
    exact wpAny_pure (hR h' s.toks T d (fun b o e => hk2 b o (fun z => by rw [z, hI0] at e; cases e) (hkp b o e)) (hk2 T _ hTI hT) (by omega))
  | succ k ih =>
    intro i s T c d hk' hi hst hkp hS hT hTS hTI hz hTf hR
    have hlt : i < ls.length := by omega
    have hp : ls[i]? = some ls[i] := List.getElem?_eq_getElem hlt
    generalize ls[i] = p at hp
    have hx : items[i]? = some (.ref p.1) := by
      rw [← Array.getElem?_toList, hit, List.getElem?_map, hp]
      rfl
    refine codeAny_builtin F.entry_sum_loop ?_
    rw [Around.under_plainId F.plain_sum_loop _]
    show wpAny _ A.in1 (seqItems? (.ref S) >>= _) _ _ s
    refine wpAny_bind (wpAny_seqItems hS rfl ?_)
    show wpAny _ A.in1 (tryCatch (pyNext (.ref I)) _ >>= _) _ _ s
    refine wpAny_bind (wpAny_tryCatch (wpAny_pyNext_list_item hst (hl0.at fun o e => hkp _ o e) hx fun h1 hst1 sb1 => ?_))
    have kp1 : ∀ b o, h0.get? b = some o → h1.get? b = some o := fun b o e => (sb1.2 b (fun z => by rw [z, hI0] at e; cases e)).trans (hkp b o e)
    have hS1 : h1.get? S = some (lstO [.ref T] c) := (sb1.2 S hIS.symm).trans hS
    have hT1 : h1.get? T = some (lstO ((ls.take i).flatMap (·.2)) d) := (sb1.2 T hTI).trans hT
    obtain ⟨cb, hb⟩ := hk p (List.mem_of_getElem? hp)
    have hb1 := kp1 _ _ hb
    have hft := flat_take hp
    have hle := flat_le (ls := ls) (i + 1)
    rw [hft, List.length_append] at hle
    show wpAny _ A.in1 ((holding [Value.ref p.1] (binaryOp .Add (.ref T) (.ref p.1))).attempt >>= _) _ _ _
    refine wpAny_bind (wpAny_attempt (wpAny_holding (PySem.P.add_list (s := { s with heap := h1 }) hT1 hb1 ?_ (by rw [List.size_toArray, List.size_toArray, sizeLine_eq]; omega))))
    have ea : ((ls.take i).flatMap (·.2)).toArray ++ p.2.toArray = ((ls.take i).flatMap (·.2) ++ p.2).toArray := by simp
    rw [ea, ← hft]
    dsimp only
    have hn2 : (h1.push (lstO ((ls.take (i + 1)).flatMap (·.2)) 0)).get? h1.objs.size = some (lstO ((ls.take (i + 1)).flatMap (·.2)) 0) := Heap.get?_push_size _ rfl
    have hS2 : (h1.push (lstO ((ls.take (i + 1)).flatMap (·.2)) 0)).get? S = some (lstO [.ref T] c) := Heap.get?_push_of_some _ hS1
    have kp2 : ∀ b o, h0.get? b = some o → (h1.push (lstO ((ls.take (i + 1)).flatMap (·.2)) 0)).get? b = some o := fun b o e => Heap.get?_push_of_some _ (kp1 b o e)
    have hSlt : S < h1.objs.size := Heap.lt_size hS1
    have hIlt : I < h1.objs.size := by
      obtain ⟨_, e, _⟩ := hst1
      exact Heap.lt_size e
    have hst2 : (h1.push (lstO ((ls.take (i + 1)).flatMap (·.2)) 0)).IsListIter I l (i + 1) := hst1.at fun o e => Heap.get?_push_of_some _ e
    have hz1 : h1.objs.size = s.heap.objs.size := sb1.1
    refine wpAny_bind (wpAny_updateSeq hS2 rfl ?_)
    refine wpAny_bind (wpAny_letGo ?_)
    have hS3 : ((h1.push (lstO ((ls.take (i + 1)).flatMap (·.2)) 0)).update S (Obj.mapSeq fun _ => #[.ref h1.objs.size])).get? S = _ := Heap.get?_update_self _ hS2 rfl
    refine wpAny_bind (wpAny_updateSeq hS3 rfl ?_)
    have hS4 : (((h1.push (lstO ((ls.take (i + 1)).flatMap (·.2)) 0)).update S (Obj.mapSeq fun _ => #[.ref h1.objs.size])).update S (Obj.mapSeq fun _ => #[.ref h1.objs.size])).get? S = _ := Heap.get?_update_self _ hS3 rfl
    have other : ∀ b o, b ≠ S → (h1.push (lstO ((ls.take (i + 1)).flatMap (·.2)) 0)).get? b = some o → (((h1.push (lstO ((ls.take (i + 1)).flatMap (·.2)) 0)).update S (Obj.mapSeq fun _ => #[.ref h1.objs.size])).update S (Obj.mapSeq fun _ => #[.ref h1.objs.size])).get? b = some o := fun b o nb e =>
      (Heap.get?_update_other _ _ (Ne.symm nb)).trans ((Heap.get?_update_other _ _ (Ne.symm nb)).trans e)
    refine wpAny_pure ⟨plainId_quiet F.plain_sum_loop _, ih (i + 1) _ h1.objs.size _ 0 (by omega) hlt (hst2.at fun o e => other I o hIS e) (fun b o e => other b o (fun z => by rw [z, hS0] at e; cases e) (kp2 b o e)) hS4 (other _ _ (Nat.ne_of_gt hSlt) hn2) (Nat.ne_of_gt hSlt) (Nat.ne_of_gt hIlt) ?_ (.inr (by omega)) fun h' tk T' d' g1 g2 g3 => hR h' tk T' d' g1 g2 g3⟩
    rw [Heap.size_update, Heap.size_update, Heap.size_push]
    omega
end
section
variable {prog : Program} {w : World} {A : Around} {E : Value → Shared → Prop} {s : Shared}
theorem call_sumL {l b : Addr} {items : Array Value} {ls : List (Addr × List Value)} {cb : Nat} {Q : Value → Shared → Prop} (hh : A.handled = none) (hl : s.heap.IsList l items) (hit : items.toList = ls.map fun p => Value.ref p.1) (hk : ∀ p ∈ ls, ∃ c, s.heap.get? p.1 = some (lstO p.2 c)) (hb : s.heap.get? b = some (lstO [] cb))
    (hfew : (ls.flatMap (·.2)).length ≤ 100000) (hne : 0 < ls.length) (hQ : ∀ h' tk T' d', (∀ c o, s.heap.get? c = some o → h'.get? c = some o) → h'.get? T' = some (lstO (ls.flatMap (·.2)) d') → s.heap.objs.size ≤ T' → Q (.ref T') { s with heap := h', toks := tk }) :
    wpAny (model prog w) A (call (.builtin "sum") [.ref l, .ref b]) Q E s := by
  refine call_function_tree F.kind_sum F.plain_sum F.entry_sum (args_sum2 _ _) ?_
  unfold Builtin.«sum»
  simp only [List.length_cons, List.length_nil]
  rw [if_neg (by decide)]
  refine wpAny_bind (wpAny_of_eq (show Builtin.Builtins.bindParams "sum" ["start"] 0 ⟨[.ref b], []⟩ = pure [some (.ref b)] from rfl) ?_)
  refine wpAny_bind (wpAny_pyIter_list hl ?_)
  refine wpAny_bind (wpAny_pure ?_)
  have hT : ∀ {s' : Shared}, (∀ c o, s.heap.get? c = some o → s'.heap.get? c = some o) → s'.TypeIs (.ref b) "list" := fun kp => ⟨_, kp _ _ hb, rfl⟩
  have kp1 : ∀ c o, s.heap.get? c = some o → (s.heap.push { cls := .type "list_iterator", data := .fields #[.ref l, .int 0 0] }).get? c = some o := fun c o e => Heap.get?_push_of_some _ e
  simp only [List.forIn_cons, List.forIn_nil]
  refine wpAny_bind (wpAny_bind (wpAny_bind (wpAny_isInstance (T := "list") (b := false) (hT kp1) sub_list_str ?_)))
  simp only [Bool.false_eq_true, if_false]
  refine wpAny_pure (wpAny_bind (wpAny_bind (wpAny_isInstance (T := "list") (b := false) (hT kp1) sub_list_bytes ?_)))
  simp only [Bool.false_eq_true, if_false]
  refine wpAny_pure (wpAny_bind (wpAny_bind (wpAny_isInstance (T := "list") (b := false) (hT kp1) sub_list_bytearray ?_)))
  simp only [Bool.false_eq_true, if_false]
  refine wpAny_pure (wpAny_pure ?_)
  refine wpAny_bind (wpAny_newObj_type ?_)
  have none_of : ∀ c, s.heap.objs.size ≤ c → s.heap.get? c = none := fun c hc => by
    cases q : s.heap.get? c with
    | none => rfl
    | some o => exact absurd (Nat.lt_of_lt_of_le (Heap.lt_size q) hc) (Nat.lt_irrefl _)
  have hbl : b < s.heap.objs.size := Heap.lt_size hb
  refine wpAny_pure ⟨plainId_quiet F.plain_sum_loop _, sumL_loop (S := (s.heap.push { cls := .type "list_iterator", data := .fields #[.ref l, .int 0 0] }).objs.size) (I := s.heap.objs.size) (l := l) (ls := ls) (items := items) hh hit s.heap hk (none_of _ (Nat.le_refl _)) (none_of _ (by rw [Heap.size_push]; exact Nat.le_succ _)) hl (by rw [Heap.size_push]; exact Nat.ne_of_lt (Nat.lt_succ_self _)) hfew hne ls.length 0 _ b 0 cb rfl (Nat.zero_le _)
    ⟨_, Heap.get?_push_of_some _ (Heap.get?_push_size _ rfl), rfl, rfl⟩ (fun c o e => Heap.get?_push_of_some _ (kp1 c o e)) (Heap.get?_push_size _ rfl) (Heap.get?_push_of_some _ (kp1 _ _ hb)) ?_ (Nat.ne_of_lt hbl) ?_ (.inl rfl) fun h' tk T' d' g1 g2 g3 => ?_⟩
  · rw [Heap.size_push]
    exact Nat.ne_of_lt (Nat.lt_succ_of_lt hbl)
  · show s.heap.objs.size ≤ ((s.heap.push _).push _).objs.size
    rw [Heap.size_push, Heap.size_push]
    omega
  · exact hQ h' tk T' d' g1 g2 g3
end
section
variable {X : Cx}
/-- sum(xs, []), xs a list of lists of whole numbers -/
def rSumL (K : PySem.W.Frag) : List V → Hp → VK → Prop := fun vs H Q => ∃ (l b : Addr) (ks : List (Addr × List Int)), vs = [V.ref l, V.ref b] ∧ SqL K H l (ks.map fun p => V.ref p.1) ∧ H b = some (.lst []) ∧ (∀ p ∈ ks, H p.1 = some (.lst (p.2.map V.int))) ∧ 0 < ks.length ∧ (ks.flatMap (·.2)).length ≤ 100000 ∧
  ∀ p, H p = none → Q (.ref p) (upd H p (.lst ((ks.flatMap (·.2)).map V.int)))
theorem refs_of : ∀ {ks : List (Addr × List Int)} {us : List Value}, Vals (ks.map fun p => V.ref p.1) us → us = ks.map fun p => Value.ref p.1
  | [], _, .nil => rfl
  | p :: ks, _, .cons r t => by
    cases r
    rw [refs_of t] <;> rfl
/-- the items of the lists, as they lie -/
theorem lists_at {pins : List (Addr × Obj)} {σ : L2.St} {H : Hp} {s : Shared} (I : Inv X pins σ H s) : ∀ (ks : List (Addr × List Int)), (∀ p ∈ ks, H p.1 = some (.lst (p.2.map V.int))) → ∃ ls : List (Addr × List Value), ls.map (·.1) = ks.map (·.1) ∧ (∀ p ∈ ls, ∃ c, s.heap.get? p.1 = some (lstO p.2 c)) ∧ Vals ((ks.flatMap (·.2)).map V.int) (ls.flatMap (·.2))
  | [], _ => ⟨[], rfl, (fun _ z => nomatch z), .nil⟩
  | p :: ks, h => by
    obtain ⟨ls, e, hk, hv⟩ := lists_at I ks fun q hq => h q (List.mem_cons_of_mem _ hq)
    obtain ⟨_, its, n, r, ho⟩ := I.hok _ _ (h p List.mem_cons_self)
    refine ⟨(p.1, its) :: ls, by rw [List.map_cons, List.map_cons, e], fun q hq => ?_, ?_⟩
    · rcases List.mem_cons.mp hq with z | z
      · rw [z]
        exact ⟨n, ho⟩
      · exact hk q z
    · rw [List.flatMap_cons, List.flatMap_cons, List.map_append]
      exact r.append hv
theorem cr_sumL (hc : X.calm = true) : CallR X (.builtin "sum") (rSumL X.K) := by
  intro pins s σ H vs us Q I r h
  obtain ⟨l, b, ks, rfl, hl, hb, hk, hne, hfew, q⟩ := h
  obtain ⟨u1, u2, rfl, r1, r2⟩ := vals2 r
  obtain rfl : u1 = Value.ref l := r1
  obtain rfl : u2 = Value.ref b := r2
  obtain ⟨its, rv, pl, hz⟩ := I.list hl
  obtain ⟨_, its2, n2, rb, hob⟩ := I.hok _ _ hb
  cases rb
  obtain ⟨ls, e, hls, hv⟩ := lists_at I ks hk
  have hlen : ls.length = ks.length := by
    have z := congrArg List.length e
    rw [List.length_map, List.length_map] at z
    exact z
  have hlf : (ls.flatMap (·.2)).length = (ks.flatMap (·.2)).length := by
    rw [← hv.length, List.length_map]
  have hit : its.toArray.toList = ls.map fun p => Value.ref p.1 := by
    rw [refs_of rv]
    have z := congrArg (List.map Value.ref) e
    rw [List.map_map, List.map_map] at z
    exact z.symm
  refine call_sumL (I.ok.hd hc) pl.isList hit hls hob (by rw [hlf]; exact hfew) (by rw [hlen]; exact hne) fun h' tk T' d' g1 g2 g3 => ?_
  refine ⟨.ref T', upd H T' (.lst ((ks.flatMap (·.2)).map V.int)), I.laid (t' := tk) g1 g3 ⟨?_, _, d', hv, g2⟩, rfl, q T' (I.hok.fresh g3)⟩
  rw [List.length_map, sizeLine_eq]
  omega
end
end PA

set_option Elab.async false
set_option linter.all false
set_option maxRecDepth 100000
set_option maxHeartbeats 4000000
namespace PA
open PySem PySem.Spec PyProof.Rows L2
/-! ### zip(xs, ys, zs): its objects lie at n (the three iterators), n + 3 (their tuple), n + 4 (the tuple handed out), n + 5 -/
abbrev IsTrip (h : Heap) (T : Addr) (a b c : Value) : Prop := h.get? T = some { cls := .type "tuple", data := .seq #[a, b, c] }
section
variable {prog : Program} {w : World} {A : Around} {E : Value → Shared → Prop} {s : Shared}
theorem upd_trip {T : Addr} {a b c x : Value} {k : Nat} {Q : Unit → Shared → Prop} (hT : IsTrip s.heap T a b c)
    (h : ∀ h', h'.get? T = some { cls := .type "tuple", data := .seq ((#[a, b, c] : Array Value).setIfInBounds k x) } → Heap.SameBut T s.heap h' → Q () { s with heap := h' }) : wpAny (model prog w) A (updateSeq T (·.setIfInBounds k x)) Q E s := by
  refine wpAny_updateSeq hT rfl (h _ ?_ (Heap.SameBut.update ..))
  rw [Heap.get?_update_self _ hT rfl]
  simp [Obj.mapSeq]
theorem ad {a b : Nat} (h : a ≠ b) : @Ne Addr a b := h
theorem zip3_item {n l1 l2 l3 : Nat} {k1 k2 k3 : Nat} {xs ys zs : Array Value} {x y z a b c : Value} {Q : Value → Shared → Prop} (d1 : l1 < n) (d2 : l2 < n) (d3 : l3 < n)
    (hz : IsZip s.heap (n + 5) (n + 3) (n + 4) .none) (hTI : IsTrip s.heap (n + 3) (.ref n) (.ref (n + 1)) (.ref (n + 2))) (hTO : IsTrip s.heap (n + 4) a b c)
    (h1 : s.heap.IsListIter n l1 k1) (h2 : s.heap.IsListIter (n + 1) l2 k2) (h3 : s.heap.IsListIter (n + 2) l3 k3) (hl1 : s.heap.IsList l1 xs) (hl2 : s.heap.IsList l2 ys) (hl3 : s.heap.IsList l3 zs) (hx : xs[k1]? = some x) (hy : ys[k2]? = some y) (hw : zs[k3]? = some z)
    (hQ : ∀ h', IsZip h' (n + 5) (n + 3) (n + 4) (rawInt s.heap.objs.size) → IsTrip h' (n + 4) x y z → h'.IsListIter n l1 (k1 + 1) → h'.IsListIter (n + 1) l2 (k2 + 1) → h'.IsListIter (n + 2) l3 (k3 + 1) → IsTrip h' s.heap.objs.size x y z → h'.objs.size = s.heap.objs.size + 1 →
      (∀ c o, c ≠ n → c ≠ n + 1 → c ≠ n + 2 → c ≠ n + 4 → c ≠ n + 5 → s.heap.get? c = some o → h'.get? c = some o) → Q (.ref s.heap.objs.size) { s with heap := h' }) :
    wpAny (model prog w) A (Builtin.«zip.__next__» ⟨[.ref (n + 5)], []⟩) (fun fin s' => ∃ v, fin = .done (.ret v) ∧ Q v s') E s := by
  have n1 : @Ne Addr l1 (n + 5) := ad (by omega)
  have n2 : @Ne Addr l2 (n + 5) := ad (by omega)
  have n3 : @Ne Addr l3 (n + 5) := ad (by omega)
  show wpAny _ _ (field (.ref (n + 5)) 2 >>= _) _ _ _
  refine wpAny_bind (wpAny_field hz rfl (x := .bool false) rfl ?_)
  show wpAny _ _ (field (.ref (n + 5)) 3 >>= _) _ _ _
  refine wpAny_bind (wpAny_field hz rfl (x := .ref (n + 3)) rfl ?_)
  refine wpAny_bind (wpAny_seqItems hTI rfl ?_)
  show wpAny _ _ (Builtin.SmallTypes.ownedTupleIsFree (.ref (n + 5)) >>= _) _ _ _
  refine wpAny_bind ?_
  unfold Builtin.SmallTypes.ownedTupleIsFree
  refine wpAny_bind (wpAny_field hz rfl (x := .none) rfl (wpAny_pure ?_))
  simp only [if_true]
  refine wpAny_bind (wpAny_rule ?_)
  refine wpAny_bind (wpAny_field hz rfl (x := .ref (n + 4)) rfl ?_)
  refine wpAny_bind (wpAny_setField_rec hz (by simp) fun g1 hz1 s1 => ?_)
  replace hz1 : IsZip g1 (n + 5) (n + 3) (n + 4) .ellipsis := hz1
  refine wpAny_bind ?_
  simp only [List.zipIdx_cons, List.zipIdx_nil, List.forIn_cons, List.forIn_nil]
  -- the first
  refine wpAny_bind (wpAny_bind (wpAny_onRaise ?_))
  show wpAny _ _ (Builtin.SmallTypes.nextOf (.ref n) >>= _) _ _ _
  refine wpAny_bind (wpAny_nextOf_list_item (h1.extBut s1.extBut (ad (show n ≠ n + 5 by omega))) (hl1.extBut s1.extBut n1) hx fun g2 i1 s2 => wpAny_pure ?_)
  have t2 : IsTrip g2 (n + 4) a b c := s2.extBut _ _ (ad (by omega)) (s1.extBut _ _ (ad (by omega)) hTO)
  refine wpAny_bind (wpAny_seqItems t2 rfl ?_)
  refine wpAny_bind (upd_trip t2 fun g3 t3 s3 => ?_)
  replace t3 : IsTrip g3 (n + 4) x b c := t3
  refine wpAny_bind (wpAny_letGo (wpAny_pure ?_))
  have k3' : ∀ c o, c ≠ n → c ≠ n + 4 → c ≠ n + 5 → s.heap.get? c = some o → g3.get? c = some o := fun c o c1 c2 c3 e => s3.extBut _ _ c2 (s2.extBut _ _ c1 (s1.extBut _ _ c3 e))
  -- the second
  refine wpAny_bind (wpAny_bind (wpAny_onRaise ?_))
  show wpAny _ _ (Builtin.SmallTypes.nextOf (.ref (n + 1)) >>= _) _ _ _
  refine wpAny_bind (wpAny_nextOf_list_item (h2.at fun o e => k3' _ o (ad (by omega)) (ad (by omega)) (ad (by omega)) e) (hl2.at fun o e => k3' _ o (ad (by omega)) (ad (by omega)) (ad (by omega)) e) hy fun g4 i2 s4 => wpAny_pure ?_)
  have t4 : IsTrip g4 (n + 4) x b c := s4.extBut _ _ (ad (by omega)) t3
  refine wpAny_bind (wpAny_seqItems t4 rfl ?_)
  refine wpAny_bind (upd_trip t4 fun g5 t5 s5 => ?_)
  replace t5 : IsTrip g5 (n + 4) x y c := t5
  refine wpAny_bind (wpAny_letGo (wpAny_pure ?_))
  have k5' : ∀ c o, c ≠ n + 1 → c ≠ n + 4 → g3.get? c = some o → g5.get? c = some o := fun c o c1 c2 e => s5.extBut _ _ c2 (s4.extBut _ _ c1 e)
  -- the third
  refine wpAny_bind (wpAny_bind (wpAny_onRaise ?_))
  show wpAny _ _ (Builtin.SmallTypes.nextOf (.ref (n + 2)) >>= _) _ _ _
  refine wpAny_bind (wpAny_nextOf_list_item (h3.at fun o e => k5' _ o (ad (by omega)) (ad (by omega)) (k3' _ o (ad (by omega)) (ad (by omega)) (ad (by omega)) e)) (hl3.at fun o e => k5' _ o (ad (by omega)) (ad (by omega)) (k3' _ o (ad (by omega)) (ad (by omega)) (ad (by omega)) e)) hw fun g6 i3 s6 => wpAny_pure ?_)
  have t6 : IsTrip g6 (n + 4) x y c := s6.extBut _ _ (ad (by omega)) t5
  refine wpAny_bind (wpAny_seqItems t6 rfl ?_)
  refine wpAny_bind (upd_trip t6 fun g7 t7 s7 => ?_)
  replace t7 : IsTrip g7 (n + 4) x y z := t7
  refine wpAny_bind (wpAny_letGo (wpAny_pure (wpAny_pure ?_)))
  have k7' : ∀ c o, c ≠ n + 2 → c ≠ n + 4 → g5.get? c = some o → g7.get? c = some o := fun c o c1 c2 e => s7.extBut _ _ c2 (s6.extBut _ _ c1 e)
  refine wpAny_bind (wpAny_seqItems t7 rfl ?_)
  refine wpAny_bind (wpAny_newTuple ?_)
  have hsz : g7.objs.size = s.heap.objs.size := by rw [s7.1, s6.1, s5.1, s4.1, s3.1, s2.1, s1.1]
  have hz7 : IsZip g7 (n + 5) (n + 3) (n + 4) .ellipsis := k7' _ _ (ad (by omega)) (ad (by omega)) (k5' _ _ (ad (by omega)) (ad (by omega)) (s3.extBut _ _ (ad (by omega)) (s2.extBut _ _ (ad (by omega)) hz1)))
  have hzlt : n + 5 < g7.objs.size := Heap.lt_size hz7
  show wpAny _ _ (Builtin.SmallTypes.ownedTupleHandOut (.ref (n + 5)) (.ref g7.objs.size) >>= _) _ _ _
  refine wpAny_bind ?_
  unfold Builtin.SmallTypes.ownedTupleHandOut
  have hz8 : IsZip (g7.push { cls := .type "tuple", data := .seq #[x, y, z] }) (n + 5) (n + 3) (n + 4) .ellipsis := Heap.get?_push_of_some _ hz7
  refine wpAny_bind (wpAny_setField_rec hz8 (by simp) fun g9 hz9 s9 => ?_)
  replace hz9 : IsZip g9 (n + 5) (n + 3) (n + 4) (rawInt g7.objs.size) := hz9
  refine wpAny_setField_rec hz9 (by simp) fun g10 hz10 s10 => ?_
  replace hz10 : IsZip g10 (n + 5) (n + 3) (n + 4) (rawInt g7.objs.size) := hz10
  have up : ∀ c o, c ≠ n + 5 → g7.get? c = some o → g10.get? c = some o := fun c o c1 e => s10.extBut _ _ c1 (s9.extBut _ _ c1 (Heap.get?_push_of_some _ e))
  have hT10 : IsTrip g10 g7.objs.size x y z := s10.extBut _ _ (Nat.ne_of_gt hzlt) (s9.extBut _ _ (Nat.ne_of_gt hzlt) (Heap.get?_push_size _ rfl))
  have hz10s : g10.objs.size = g7.objs.size + 1 := by rw [s10.1, s9.1, Heap.size_push]
  rw [hsz] at hz10 hT10 hz10s
  refine wpAny_pure ⟨_, rfl, ?_⟩
  show Q (.ref g7.objs.size) _
  rw [hsz]
  refine hQ g10 hz10 (up _ _ (ad (by omega)) t7) (i1.at fun o e => ?_) (i2.at fun o e => ?_) (i3.at fun o e => ?_) hT10 hz10s fun c o c1 c2 c3 c4 c5 e => ?_
  · exact up _ o (ad (by omega)) (k7' _ o (ad (by omega)) (ad (by omega)) (k5' _ o (ad (by omega)) (ad (by omega)) (s3.extBut _ _ (ad (by omega)) e)))
  · exact up _ o (ad (by omega)) (k7' _ o (ad (by omega)) (ad (by omega)) (s5.extBut _ _ (ad (by omega)) e))
  · exact up _ o (ad (by omega)) (s7.extBut _ _ (ad (by omega)) e)
  · exact up c o c5 (k7' c o c3 c4 (k5' c o c2 c4 (k3' c o c1 c4 c5 e)))
/-- at the first list's end -/
theorem zip3_end {n l1 : Nat} {k1 : Nat} {xs : Array Value} {Q : Fin → Shared → Prop} (hh : A.handled = none) (d1 : l1 < n) (hz : IsZip s.heap (n + 5) (n + 3) (n + 4) .none) (hTI : IsTrip s.heap (n + 3) (.ref n) (.ref (n + 1)) (.ref (n + 2)))
    (h1 : s.heap.IsListIter n l1 k1) (hl1 : s.heap.IsList l1 xs) (hx : xs[k1]? = none)
    (hE : ∀ h' e, (∀ c o, c ≠ n → c ≠ n + 5 → s.heap.get? c = some o → h'.get? c = some o) → (∃ o, h'.get? e = some o ∧ o.cls = .type "StopIteration") → E (.ref e) { s with heap := h' }) :
    wpAny (model prog w) A (Builtin.«zip.__next__» ⟨[.ref (n + 5)], []⟩) Q E s := by
  show wpAny _ _ (field (.ref (n + 5)) 2 >>= _) _ _ _
  refine wpAny_bind (wpAny_field hz rfl (x := .bool false) rfl ?_)
  show wpAny _ _ (field (.ref (n + 5)) 3 >>= _) _ _ _
  refine wpAny_bind (wpAny_field hz rfl (x := .ref (n + 3)) rfl ?_)
  refine wpAny_bind (wpAny_seqItems hTI rfl ?_)
  show wpAny _ _ (Builtin.SmallTypes.ownedTupleIsFree (.ref (n + 5)) >>= _) _ _ _
  refine wpAny_bind ?_
  unfold Builtin.SmallTypes.ownedTupleIsFree
  refine wpAny_bind (wpAny_field hz rfl (x := .none) rfl (wpAny_pure ?_))
  simp only [if_true]
  refine wpAny_bind (wpAny_rule ?_)
  refine wpAny_bind (wpAny_field hz rfl (x := .ref (n + 4)) rfl ?_)
  refine wpAny_bind (wpAny_setField_rec hz (by simp) fun g1 hz1 s1 => ?_)
  replace hz1 : IsZip g1 (n + 5) (n + 3) (n + 4) .ellipsis := hz1
  refine wpAny_bind ?_
  simp only [List.zipIdx_cons, List.zipIdx_nil, List.forIn_cons, List.forIn_nil]
  refine wpAny_bind (wpAny_bind (wpAny_onRaise ?_))
  show wpAny _ _ (Builtin.SmallTypes.nextOf (.ref n) >>= _) _ _ _
  refine wpAny_bind (wpAny_nextOf_list_end hh (h1.extBut s1.extBut (ad (show n ≠ n + 5 by omega))) (hl1.extBut s1.extBut (ad (show l1 ≠ n + 5 by omega))) hx fun g2 e s2 he => ?_)
  obtain ⟨oe, hoe, hce⟩ := he
  have hz2 : IsZip g2 (n + 5) (n + 3) (n + 4) .ellipsis := s2 _ _ (ad (by omega)) hz1
  have hez : e ≠ n + 5 := fun q => by
    rw [q, hz2] at hoe
    cases hoe
    simp at hce
  exact wpAny_setField_rec hz2 (by simp) fun g3 _ s3 => hE g3 e (fun c o c1 c2 q => s3.extBut _ _ c2 (s2 _ _ c1 (s1.extBut _ _ c2 q))) ⟨oe, s3.extBut _ _ hez hoe, hce⟩
theorem next3_item {n l1 l2 l3 : Nat} {k1 k2 k3 : Nat} {xs ys zs : Array Value} {x y z a b c : Value} {Q : Option Value → Shared → Prop} (d1 : l1 < n) (d2 : l2 < n) (d3 : l3 < n)
    (hz : IsZip s.heap (n + 5) (n + 3) (n + 4) .none) (hTI : IsTrip s.heap (n + 3) (.ref n) (.ref (n + 1)) (.ref (n + 2))) (hTO : IsTrip s.heap (n + 4) a b c)
    (h1 : s.heap.IsListIter n l1 k1) (h2 : s.heap.IsListIter (n + 1) l2 k2) (h3 : s.heap.IsListIter (n + 2) l3 k3) (hl1 : s.heap.IsList l1 xs) (hl2 : s.heap.IsList l2 ys) (hl3 : s.heap.IsList l3 zs) (hx : xs[k1]? = some x) (hy : ys[k2]? = some y) (hw : zs[k3]? = some z)
    (hQ : ∀ h', IsZip h' (n + 5) (n + 3) (n + 4) (rawInt s.heap.objs.size) → IsTrip h' (n + 4) x y z → h'.IsListIter n l1 (k1 + 1) → h'.IsListIter (n + 1) l2 (k2 + 1) → h'.IsListIter (n + 2) l3 (k3 + 1) → IsTrip h' s.heap.objs.size x y z → h'.objs.size = s.heap.objs.size + 1 →
      (∀ c o, c ≠ n → c ≠ n + 1 → c ≠ n + 2 → c ≠ n + 4 → c ≠ n + 5 → s.heap.get? c = some o → h'.get? c = some o) → Q (some (.ref s.heap.objs.size)) { s with heap := h' }) : wpAny (model prog w) A (pyNext (.ref (n + 5))) Q E s := by
  have hT : s.TypeIs (.ref (n + 5)) "zip" := ⟨_, hz, rfl⟩
  unfold pyNext
  exact wpAny_bind (wpAny_attempt (wpAny_callSpecial?_slot (name := Str.ofString "__next__") hT F.slot_zip_next (wpAny_call_entry F.slot_zip_next hT F.entry_zip_next
      (zip3_item d1 d2 d3 hz hTI hTO h1 h2 h3 hl1 hl2 hl3 hx hy hw fun h' a1 a2 a3 a4 a5 a6 a7 a8 => wpAny_pure (hQ h' a1 a2 a3 a4 a5 a6 a7 a8)) (F.args_zip_next_1 _))))
theorem next3_end {n l1 : Nat} {k1 : Nat} {xs : Array Value} {Q : Option Value → Shared → Prop} (hh : A.handled = none) (d1 : l1 < n) (hz : IsZip s.heap (n + 5) (n + 3) (n + 4) .none) (hTI : IsTrip s.heap (n + 3) (.ref n) (.ref (n + 1)) (.ref (n + 2)))
    (h1 : s.heap.IsListIter n l1 k1) (hl1 : s.heap.IsList l1 xs) (hx : xs[k1]? = none) (hQ : ∀ h', (∀ c o, c ≠ n → c ≠ n + 5 → s.heap.get? c = some o → h'.get? c = some o) → Q none { s with heap := h' }) : wpAny (model prog w) A (pyNext (.ref (n + 5))) Q E s := by
  have hT : s.TypeIs (.ref (n + 5)) "zip" := ⟨_, hz, rfl⟩
  unfold pyNext
  refine wpAny_bind (wpAny_attempt (wpAny_callSpecial?_slot (name := Str.ofString "__next__") hT F.slot_zip_next (wpAny_call_entry F.slot_zip_next hT F.entry_zip_next (zip3_end hh d1 hz hTI h1 hl1 hx fun h' e hk he => ?_) (F.args_zip_next_1 _))))
  obtain ⟨o, ho, hc⟩ := he
  exact wpAny_bind (wpAny_isInstance (T := "StopIteration") (b := true) ⟨o, ho, hc⟩ isSubtype_stop (wpAny_pure (hQ _ hk)))
end
/-! ### made -/
abbrev z3a (h : Heap) (l : Addr) : Heap := h.push { cls := .type "list_iterator", data := .fields #[.ref l, .int 0 0] }
abbrev z3h (h : Heap) (l1 l2 l3 : Addr) : Heap := z3a (z3a (z3a h l1) l2) l3
abbrev z3t (h : Heap) (l1 l2 l3 : Addr) : Heap := (z3h h l1 l2 l3).push { cls := .type "tuple", data := .seq #[.ref h.objs.size, .ref (z3a h l1).objs.size, .ref (z3a (z3a h l1) l2).objs.size] }
abbrev z3u (h : Heap) (l1 l2 l3 : Addr) : Heap := (z3t h l1 l2 l3).push { cls := .type "tuple", data := .seq #[.none, .none, .none] }
abbrev z3z (h : Heap) (l1 l2 l3 : Addr) : Heap := (z3u h l1 l2 l3).push { cls := .type "zip", data := .fields #[.none, .bool false, .bool false, .ref (z3h h l1 l2 l3).objs.size, .ref (z3t h l1 l2 l3).objs.size] }
theorem typeCall_zip_3 (a b c : Value) : checkTypeCall "zip" ⟨[a, b, c], []⟩ = pure () := by kernel_rfl
theorem newCall_zip_3 (a b c : Value) : checkBuiltinCall "zip.__new__" ⟨[.type "zip", a, b, c], []⟩ = pure () := by kernel_rfl
theorem args_init_4 (a b c d : Value) : argsOk "object.__init__" ⟨[a, b, c, d], []⟩ := by
  unfold argsOk; rw [signature?_of (id := "object.__init__") (n := ['_', '_', 't', 'i', 'n', 'i', '_', '_']) (o := ['t', 'c', 'e', 'j', 'b', 'o']) (by kernel_rfl) F.owner_object]; kernel_rfl
theorem meets_zip3 (l1 l2 l3 : Addr) (xs ys zs : Array Value) :
    Meets (Builtin.«zip.__new__» ⟨[.type "zip", .ref l1, .ref l2, .ref l3], []⟩) (fun _ R s => s.heap.IsList l1 xs ∧ s.heap.IsList l2 ys ∧ s.heap.IsList l3 zs ∧ R (.ok (.ret (.ref (z3u s.heap l1 l2 l3).objs.size))) { s with heap := z3z s.heap l1 l2 l3 }) :=
  .of_wp fun prog w A R s h => by
    obtain ⟨hp, g, d, tk, os⟩ := s
    obtain ⟨hl1, hl2, hl3, h⟩ := h
    have hsub := sub_zip
    have hL1 : Heap.IsList (Shared.heap ⟨hp, g, d, tk, os⟩) l1 xs := hl1
    have hL2 : Heap.IsList (Shared.heap ⟨z3a hp l1, g, d, tk, os⟩) l2 ys := Heap.IsList.push hl2 _
    have hL3 : Heap.IsList (Shared.heap ⟨z3a (z3a hp l1) l2, g, d, tk, os⟩) l3 zs := Heap.IsList.push (Heap.IsList.push hl3 _) _
    wp_walk using wpAny_pyIter_list hL1, wpAny_pyIter_list hL2, wpAny_pyIter_list hL3
    exact ⟨_, rfl, h⟩
section
variable {prog : Program} {w : World} {A : Around} {E : Value → Shared → Prop} {s : Shared}
theorem call_zip3 {l1 l2 l3 : Addr} {xs ys zs : Array Value} {Q : Value → Shared → Prop} (hl1 : s.heap.IsList l1 xs) (hl2 : s.heap.IsList l2 ys) (hl3 : s.heap.IsList l3 zs)
    (h : ∀ h', IsZip h' (s.heap.objs.size + 5) (s.heap.objs.size + 3) (s.heap.objs.size + 4) .none → IsTrip h' (s.heap.objs.size + 3) (.ref s.heap.objs.size) (.ref (s.heap.objs.size + 1)) (.ref (s.heap.objs.size + 2)) → IsTrip h' (s.heap.objs.size + 4) .none .none .none →
      h'.IsListIter s.heap.objs.size l1 0 → h'.IsListIter (s.heap.objs.size + 1) l2 0 → h'.IsListIter (s.heap.objs.size + 2) l3 0 → (∀ c o, s.heap.get? c = some o → h'.get? c = some o) → Q (.ref (s.heap.objs.size + 5)) { s with heap := h' }) :
    wpAny (model prog w) A (call (.type "zip") [.ref l1, .ref l2, .ref l3]) Q E s := by
  refine callType_new F.called_zip (by decide) (typeCall_zip_3 _ _ _) (newCall_zip_3 _ _ _) (fun obj => args_init_4 obj _ _ _) F.entry_zip_new (meets_zip3 l1 l2 l3 xs ys zs) ⟨hl1, hl2, hl3, ?_⟩
  have z1 : (z3a s.heap l1).objs.size = s.heap.objs.size + 1 := Heap.size_push ..
  have z2 : (z3a (z3a s.heap l1) l2).objs.size = s.heap.objs.size + 2 := by rw [Heap.size_push, z1]
  have z3 : (z3h s.heap l1 l2 l3).objs.size = s.heap.objs.size + 3 := by rw [Heap.size_push, z2]
  have z4 : (z3t s.heap l1 l2 l3).objs.size = s.heap.objs.size + 4 := by rw [Heap.size_push, z3]
  have z5 : (z3u s.heap l1 l2 l3).objs.size = s.heap.objs.size + 5 := by rw [Heap.size_push, z4]
  have up : ∀ {c : Addr} {o : Obj}, (z3h s.heap l1 l2 l3).get? c = some o → (z3z s.heap l1 l2 l3).get? c = some o := fun e => Heap.get?_push_of_some _ (Heap.get?_push_of_some _ (Heap.get?_push_of_some _ e))
  have g6 : (z3z s.heap l1 l2 l3).get? (z3u s.heap l1 l2 l3).objs.size = some _ := Heap.get?_push_size _ rfl
  have g5 : (z3z s.heap l1 l2 l3).get? (z3t s.heap l1 l2 l3).objs.size = some _ := Heap.get?_push_of_some _ (Heap.get?_push_size _ rfl)
  have g4 : (z3z s.heap l1 l2 l3).get? (z3h s.heap l1 l2 l3).objs.size = some _ := Heap.get?_push_of_some _ (Heap.get?_push_of_some _ (Heap.get?_push_size _ rfl))
  have g3 : (z3z s.heap l1 l2 l3).get? (z3a (z3a s.heap l1) l2).objs.size = some _ := up (Heap.get?_push_size _ rfl)
  have g2 : (z3z s.heap l1 l2 l3).get? (z3a s.heap l1).objs.size = some _ := up (Heap.get?_push_of_some _ (Heap.get?_push_size _ rfl))
  have g1 : (z3z s.heap l1 l2 l3).get? s.heap.objs.size = some _ := up (Heap.get?_push_of_some _ (Heap.get?_push_of_some _ (Heap.get?_push_size _ rfl)))
  show _ ∧ _
  rw [z3, z4, z5] at g6
  rw [z4] at g5
  rw [z1, z2, z3] at g4
  rw [z2] at g3
  rw [z1] at g2
  rw [z5]
  exact ⟨⟨_, g6, rfl⟩, h _ g6 g4 g5 ⟨_, g1, rfl, rfl⟩ ⟨_, g2, rfl, rfl⟩ ⟨_, g3, rfl, rfl⟩ fun c o x => up (Heap.get?_push_of_some _ (Heap.get?_push_of_some _ (Heap.get?_push_of_some _ x)))⟩
end
/-! ### the rule -/
def Itz3 (K : PySem.W.Frag) (a b c : Addr) : It :=
  ⟨fun i H => ∃ (xs ys zs : List V) (x y z : V), SqL K H a xs ∧ SqL K H b ys ∧ SqL K H c zs ∧ xs[i]? = some x ∧ ys[i]? = some y ∧ zs[i]? = some z,
    fun i H v H' => ∃ T x y z, v = .ref T ∧ H T = none ∧ H' = upd H T (.tup [x, y, z]) ∧ (∀ xs, SqL K H a xs → xs[i]? = some x) ∧ (∀ ys, SqL K H b ys → ys[i]? = some y) ∧ ∀ zs, SqL K H c zs → zs[i]? = some z,
    fun i H => ∃ xs : List V, SqL K H a xs ∧ xs.length ≤ i⟩
theorem turn_zip3 {P : Program} {w : World} {K : PySem.W.Frag} {elts : List Expr} {kk : Nat} {tpos : Pos} {a b c n : Nat} (d1 : a < n) (d2 : b < n) (d3 : c < n) :
    Turn P w K (.Tuple elts kk tpos) (Itz3 K a b c) [n + 5, n + 3, n + 4, n, n + 1, n + 2] (n + 5) (fun i h => IsZip h (n + 5) (n + 3) (n + 4) .none ∧ IsTrip h (n + 3) (.ref n) (.ref (n + 1)) (.ref (n + 2)) ∧ (∃ x y z, IsTrip h (n + 4) x y z) ∧ h.IsListIter n a i ∧ h.IsListIter (n + 1) b i ∧ h.IsListIter (n + 2) c i) where
  mem := List.mem_cons_self
  obj := fun i h st d hd => by
    obtain ⟨hz, hTI, ⟨x, y, z, hTO⟩, ⟨o1, e1, _, k1⟩, ⟨o2, e2, _, k2⟩, ⟨o3, e3, _, k3⟩⟩ := st
    have e' : d = n + 5 ∨ d = n + 3 ∨ d = n + 4 ∨ d = n ∨ d = n + 1 ∨ d = n + 2 := by simpa using hd
    rcases e' with q | q | q | q | q | q
    · rw [q]; exact ⟨_, hz, fun v q => nomatch q⟩
    · rw [q]; exact ⟨_, hTI, fun v q => nomatch q⟩
    · rw [q]; exact ⟨_, hTO, fun v q => nomatch q⟩
    · rw [q]; exact ⟨o1, e1, fun v q => by rw [k1] at q; cases q⟩
    · rw [q]; exact ⟨o2, e2, fun v q => by rw [k2] at q; cases q⟩
    · rw [q]; exact ⟨o3, e3, fun v q => by rw [k3] at q; cases q⟩
  keep := fun i h h' st k => by
    obtain ⟨hz, hTI, ⟨x, y, z, hTO⟩, h1, h2, h3⟩ := st
    exact ⟨k _ (by simp) _ hz, k _ (by simp) _ hTI, ⟨x, y, z, k _ (by simp) _ hTO⟩, h1.at fun o q => k _ (by simp) o q, h2.at fun o q => k _ (by simp) o q, h3.at fun o q => k _ (by simp) o q⟩
  item := by
    intro X hP hw hK hc i pins s σ H E I hf st hg
    subst hP hw hK
    obtain ⟨hz, hTI, ⟨x0, y0, z0, hTO⟩, h1, h2, h3⟩ := st
    obtain ⟨xs, ys, zs, x, y, z, hqx, hqy, hqz, hx, hy, hw⟩ := hg
    obtain ⟨its, rv, p, _⟩ := I.list hqx
    obtain ⟨its2, rv2, p2, _⟩ := I.list hqy
    obtain ⟨its3, rv3, p3, _⟩ := I.list hqz
    obtain ⟨u, hu, ru⟩ := rv.get hx
    obtain ⟨u2, hu2, ru2⟩ := rv2.get hy
    obtain ⟨u3, hu3, ru3⟩ := rv3.get hw
    have hzl : n + 5 < s.heap.objs.size := Heap.lt_size hz
    refine next3_item d1 d2 d3 hz hTI hTO h1 h2 h3 p.isList p2.isList p3.isList (x := u) (y := u2) (z := u3) (by simpa using hu) (by simpa using hu2) (by simpa using hu3) fun h' z' TO' h1' h2' h3' hT hsz hk => ?_
    refine ⟨_, rfl, wpAny_letOwnedTupleGo_zip (s := { s with heap := h' }) z' fun h'' z'' sb => ?_⟩
    have hT2 : h''.get? s.heap.objs.size = some { cls := .type "tuple", data := .seq #[u, u2, u3] } := (sb.2 _ (Nat.ne_of_gt hzl)).trans hT
    have new : ObjOk X.prog X.w (upd H s.heap.objs.size (.tup [x, y, z])) h'' s.heap.objs.size (.tup [x, y, z]) := ⟨by show 3 ≤ sizeLine; decide, [u, u2, u3], .cons ru (.cons ru2 (.cons ru3 .nil)), ⟨_, hT2, rfl, _, rfl⟩⟩
    have I1 : Inv X pins σ (upd H s.heap.objs.size (.tup [x, y, z])) { s with heap := h'' } :=
      I.turnedNew (t' := s.toks) (ch := [n + 5, n + 3, n + 4, n, n + 1, n + 2]) (fun d o hb q => (sb.2 d (fun q' => hb (by simp [q']))).trans (hk d o (fun q' => hb (by simp [q'])) (fun q' => hb (by simp [q'])) (fun q' => hb (by simp [q'])) (fun q' => hb (by simp [q'])) (fun q' => hb (by simp [q'])) q)) hf (Nat.le_refl _) new
    refine ⟨.ref s.heap.objs.size, _, I1, rfl, ⟨_, x, y, z, rfl, I.hok.fresh (Nat.le_refl _), rfl, fun l hl => by rw [I.list_inj hl hqx]; exact hx, fun l hl => by rw [I.list_inj hl hqy]; exact hy, fun l hl => by rw [I.list_inj hl hqz]; exact hw⟩, ⟨z'', ?_, ⟨u, u2, u3, ?_⟩, ?_, ?_, ?_⟩, fun d hdm => ?_⟩
    · exact (sb.2 _ (ad (by omega))).trans (hk _ _ (ad (by omega)) (ad (by omega)) (ad (by omega)) (ad (by omega)) (ad (by omega)) hTI)
    · exact (sb.2 _ (ad (by omega))).trans TO'
    · exact h1'.at fun o q => (sb.2 _ (ad (by omega))).trans q
    · exact h2'.at fun o q => (sb.2 _ (ad (by omega))).trans q
    · exact h3'.at fun o q => (sb.2 _ (ad (by omega))).trans q
    · have hlt : d < s.heap.objs.size := by
        have e' : d = n + 5 ∨ d = n + 3 ∨ d = n + 4 ∨ d = n ∨ d = n + 1 ∨ d = n + 2 := by simpa using hdm
        have hzl' : n + 5 < s.heap.objs.size := hzl
        rcases e' with q | q | q | q | q | q <;> rw [q] <;> first | exact hzl' | exact Nat.lt_of_le_of_lt (by first | exact Nat.le_add_right _ _ | (exact Nat.add_le_add_left (by decide) _)) hzl'
      rw [upd_ne (Nat.ne_of_lt hlt)]
      exact (hf d hdm).1
  done := by
    intro X hP hw hK hc i pins s σ H E I hf st hg
    subst hP hw hK
    obtain ⟨hz, hTI, ⟨x0, y0, z0, hTO⟩, h1, h2, h3⟩ := st
    obtain ⟨xs, hqx, hend⟩ := hg
    obtain ⟨its, rv, p, _⟩ := I.list hqx
    have l1 := rv.length
    exact next3_end (I.ok.hd hc) d1 hz hTI h1 p.isList (by simp; omega) fun h' hk => ⟨rfl, I.turnedL (t' := s.toks) (ch := [n + 5, n + 3, n + 4, n, n + 1, n + 2]) (fun d o hb q => hk d o (fun q' => hb (by simp [q'])) (fun q' => hb (by simp [q'])) q) hf⟩
  self := fun A i s Q E st h => wpAny_pyIter_zip st.1 h
def iZip3 (K : PySem.W.Frag) (ta : TA) : TI := fun σ H R => ta σ H fun vs H1 => ∃ a b c xs ys zs, vs = [.ref a, .ref b, .ref c] ∧ SqL K H1 a xs ∧ SqL K H1 b ys ∧ SqL K H1 c zs ∧ R (Itz3 K a b c) H1
theorem pi_zip3 {X : Cx} {e e2 e3 : Expr} {ta : TA} {p pos tpos : Pos} {elts : List Expr} {kk : Nat} (hg : Gl X "zip") (hm : X.mg "zip" = none) (ha : PA X [e, e2, e3] ta)
    (hs : starEach [e, e2, e3] X.env = (false, eval e X.env) :: starEach [e2, e3] X.env := by rfl) (hpl : (backTo pos (starEach [e2, e3] X.env)).any (·.1) = false := by rfl) :
    PI X (.Tuple elts kk tpos) (.Call (.Name "zip" p) [e, e2, e3] [] pos) (iZip3 X.K ta) := by
  refine ⟨fun pins s σ H R I h => ?_⟩
  refine Call_ (ld_blt I hg hm PyProof.Rows.boot_zip (PyProof.Rows.callWith_type1 (thn (ha.run pos pins s σ H _ I h) fun us s1 ⟨vs, H1, I1, r1, q1⟩ => ?_) hs hpl))
  obtain ⟨a, b, c, xs, ys, zs, ex, hqx, hqy, hqz, q⟩ := q1
  subst ex
  obtain ⟨u1, us', rfl, r, rr⟩ : ∃ u1 us', us = u1 :: us' ∧ RelV (.ref a) u1 ∧ Vals [.ref b, .ref c] us' := by
    cases r1 with
    | cons r rr => exact ⟨_, _, rfl, r, rr⟩
  obtain ⟨u2, u3, rfl, r', r''⟩ := vals2 rr
  cases r
  cases r'
  cases r''
  obtain ⟨its, rv, p1, _⟩ := I1.list hqx
  obtain ⟨its2, rv2, p2, _⟩ := I1.list hqy
  obtain ⟨its3, rv3, p3, _⟩ := I1.list hqz
  refine call_zip3 p1.isList p2.isList p3.isList fun h' hz hTI hTO h1 h2 h3 hk => wpAny_pyIter_zip hz ?_
  have I2 : Inv X pins σ H1 { s1 with heap := h' } := I1.kept (t' := s1.toks) hk
  refine ⟨s1.heap.objs.size + 5, [s1.heap.objs.size + 5, s1.heap.objs.size + 3, s1.heap.objs.size + 4, s1.heap.objs.size, s1.heap.objs.size + 1, s1.heap.objs.size + 2], _, _, H1, rfl, I2, turn_zip3 p1.lt p2.lt p3.lt, ⟨hz, hTI, ⟨_, _, _, hTO⟩, h1, h2, h3⟩, fun d hdm => ?_, q⟩
  have e' : d = s1.heap.objs.size + 5 ∨ d = s1.heap.objs.size + 3 ∨ d = s1.heap.objs.size + 4 ∨ d = s1.heap.objs.size ∨ d = s1.heap.objs.size + 1 ∨ d = s1.heap.objs.size + 2 := by simpa using hdm
  have hle : s1.heap.objs.size ≤ d := by
    rcases e' with z | z | z | z | z | z <;> rw [z] <;> first | exact Nat.le_refl _ | exact Nat.le_add_right _ _
  exact I1.fpOk hle (I1.hok.fresh hle)
/-- a loop over zip of three lists of one length -/
theorem for_zip3 {K : PySem.W.Frag} {a b c : Addr} {xs ys zs : List V} {g : TG} {tb : TS} {D : Ends} {σ : L2.St} {H : Hp} (hl : xs.length = ys.length) (hl2 : xs.length = zs.length) (Pv : Nat → L2.St → Hp → Prop) (h0 : Pv 0 σ H) (hq : ∀ i σ H, Pv i σ H → SqL K H a xs ∧ SqL K H b ys ∧ SqL K H c zs)
    (hs : ∀ i x y z T σ' H', xs[i]? = some x → ys[i]? = some y → zs[i]? = some z → H' T = none → Pv i σ' H' → g (.ref T) σ' (upd H' T (.tup [x, y, z])) fun σ2 H2 => tb { D with nx := Pv (i + 1), ct := Pv (i + 1), bk := D.nx } σ2 H2) (hd : ∀ σ' H', Pv xs.length σ' H' → D.nx σ' H') :
    ∃ W : Nat → Nat → L2.St → Hp → Prop, (∃ m, W 0 m σ H) ∧ ∀ i m σ H, W i m σ H → ((Itz3 K a b c).stop i H ∧ D.nx σ H) ∨ ((Itz3 K a b c).go i H ∧ ∃ N : L2.St → Hp → Prop, (∀ σ' H', N σ' H' → ∃ m', m' < m ∧ W (i + 1) m' σ' H') ∧ ∀ x H', (Itz3 K a b c).yld i H x H' → g x σ H' fun σ2 H2 => tb { D with nx := N, ct := N, bk := D.nx } σ2 H2) := by
  refine ⟨fun i m σ H => m = xs.length - i ∧ i ≤ xs.length ∧ Pv i σ H, ⟨_, rfl, Nat.zero_le _, h0⟩, fun i m σ' H' hW => ?_⟩
  obtain ⟨em, hi, p⟩ := hW
  obtain ⟨q1, q2, q3⟩ := hq i σ' H' p
  by_cases hlt : i < xs.length
  · refine .inr ⟨⟨xs, ys, zs, xs[i], ys[i]'(by omega), zs[i]'(by omega), q1, q2, q3, List.getElem?_eq_getElem hlt, List.getElem?_eq_getElem _, List.getElem?_eq_getElem _⟩, Pv (i + 1), fun σ2 H2 p2 => ⟨xs.length - (i + 1), by omega, rfl, hlt, p2⟩, fun v H2 hy => ?_⟩
    obtain ⟨T, x, y, z, rfl, hT, rfl, g1, g2, g3⟩ := hy
    exact hs i x y z T σ' H' (g1 xs q1) (g2 ys q2) (g3 zs q3) hT p
  · have ei : i = xs.length := by omega
    subst ei
    exact .inl ⟨⟨xs, q1, Nat.le_refl _⟩, hd σ' H' p⟩
end PA

set_option Elab.async false
set_option linter.all false
set_option maxRecDepth 100000
set_option maxHeartbeats 4000000
namespace PA
open PySem PySem.Spec PyProof.Rows L2 Evl LamX NdefX
theorem tyx_st {K : PySem.W.Frag} {H : Hp} {a : Addr} {xs : List V} (h : SqT K H a xs) : TyX K H (.ref a) (.type "tuple") := by
  rcases h with (h | ⟨o, h⟩) | ⟨o, its, n, h, hc, _⟩
  · exact .base (.tup h)
  · exact .fTuple h
  · exact .kTuple h hc
def rTupS (K : PySem.W.Frag) : List V → Hp → VK → Prop := fun xs H Q => ∃ p ys, xs = [V.ref p] ∧ ((SqL K H p ys ∧ ∀ l, H l = none → Q (.ref l) (upd H l (.tup ys))) ∨ (SqT K H p ys ∧ Q (.ref p) H))
section
variable {K : PySem.W.Frag} {σ : L2.St} {H H' : Hp} {ta tb te tx tc : TE} {t u : TT} {x y z v w : V} {D : Ends} {tu tw tz : TS} {g : TG} {r r' : R2} {i j : Nat}
theorem rv_isN : RV (fun x y H Q => y = V.non ∧ Q (.bl (decide (x = .non))) H) x .non H (.bl (decide (x = .non))) := fun H1 _ _ q => ⟨rfl, q H1 (Ex.refl H1)⟩
theorem rv_notN : RV (fun x y H Q => y = V.non ∧ Q (.bl (!decide (x = .non))) H) x .non H (.bl (!decide (x = .non))) := fun H1 _ _ q => ⟨rfl, q H1 (Ex.refl H1)⟩
theorem SpV_ex {sp : Sp} {vs : List V} (h : SpV sp vs H z) (e : Ex H H') : SpV sp vs H' z := fun H1 e1 => h H1 (e.trans e1)
theorem ev_callL1 {sp : Sp} {xs : List V} {E : XK} (h : EvL te σ H xs) (hs : ∀ p H1, Ex H H1 → H1 p = some (.lst xs) → SpV sp [.ref p] H1 z) : Ev (tCall sp [] E (tCons te tNil)) σ H z := fun H1 e Q q =>
  h H1 e _ fun p H2 hp e2 h2 => hs p H2 (e.trans e2) h2 H2 (Ex.refl _) Q (fun H3 e3 => q H3 (e2.trans e3)) E
theorem ev_cbOrL {rr : List V → Hp → VK → Prop} {ta tb : TE} (h : Ev (tCB rr (tCons ta tNil)) σ H v) : Ev (tCB rr (tCons (fun σ H Q => ta σ H Q ∨ tb σ H Q) tNil)) σ H v := fun H1 e Q q => .inl (h H1 e Q q)
theorem ev_cbOrR {rr : List V → Hp → VK → Prop} {ta tb : TE} (h : Ev (tCB rr (tCons tb tNil)) σ H v) : Ev (tCB rr (tCons (fun σ H Q => ta σ H Q ∨ tb σ H Q) tNil)) σ H v := fun H1 e Q q => .inr (h H1 e Q q)
/-- tuple(a new list) -/
theorem eu_tuple {xs : List V} (h : EvL te σ H xs) : EvU (tCB (rTupS K) (tCons te tNil)) σ H xs := fun H1 e Q q =>
  h H1 e _ fun p H2 hp e2 h2 => ⟨p, xs, rfl, .inl ⟨sq_of h2, fun l hl => q l _ (fresh_back e2 hl) (e2.trans (Ex.new hl)) upd_same⟩⟩
/-- a, b = a new pair -/
theorem q_unp (h : EvU te σ H [v, w]) (k : ∀ H1, Ex H H1 → tz D ((σ.set i (some v)).set j (some w)) H1) : tSeq (tAsg te (gTup K 2 (gCons (gName i) (gCons (gName j) gNil)))) tz D σ H :=
  h H (Ex.refl H) _ fun p H1 _ e1 h1 => ⟨p, _, rfl, st_of h1, rfl, v, _, rfl, w, _, rfl, rfl, k H1 e1⟩
theorem g_two {a : Addr} {Q : L2.St → Hp → Prop} (h : SqT K H a [v, w]) (k : Q ((σ.set i (some v)).set j (some w)) H) : gTup K 2 (gCons (gName i) (gCons (gName j) gNil)) (.ref a) σ H Q := ⟨a, _, rfl, h, rfl, v, _, rfl, w, _, rfl, rfl, k⟩
theorem g_three {a : Addr} {m : Nat} {Q : L2.St → Hp → Prop} (h : SqT K H a [v, w, x]) (k : Q (((σ.set i (some v)).set j (some w)).set m (some x)) H) : gTup K 3 (gCons (gName i) (gCons (gName j) (gCons (gName m) gNil))) (.ref a) σ H Q := ⟨a, _, rfl, h, rfl, v, _, rfl, w, _, rfl, x, _, rfl, rfl, k⟩
/-- over a list of the i-th item of which P i holds, any target -/
theorem q_forG {P : Nat → V → Hp → Prop} {n : Nat} (st : ∀ i, Stab (P i)) (h : EvLJ te σ H P n) (S : L2.St → Prop) (h0 : S σ)
    (hs : ∀ i x σ' H' H0, i < n → Ex H H' → Ex H0 H' → P i x H' → S σ' → g x σ' H' fun σ2 H2 => tu { D with nx := fun σ2 H2 => S σ2 ∧ Ex H0 H2, ct := fun σ2 H2 => S σ2 ∧ Ex H0 H2, bk := tz D } σ2 H2) (hd : ∀ σ' H', Ex H H' → S σ' → tz D σ' H') : tSeq (tFor (iList K te) g tu) tz D σ H :=
  h H (Ex.refl H) _ fun vs p H1 e1 h1 hl hv => ⟨p, rfl, ⟨vs, sq_of h1⟩, for_list (K := K) (xs := vs) (D := { D with nx := tz D }) (fun _ σ' H' => S σ' ∧ Ex H1 H') ⟨h0, Ex.refl _⟩ (fun i σ' H' _ w => sq_of (w.2 _ _ h1)) (fun i x σ' H' hi w =>
    hs i x σ' H' _ (hl ▸ (List.getElem?_eq_some_iff.mp hi).1) (e1.trans w.2) w.2 (st i _ _ _ w.2 (hv i x hi)) w.1) fun σ' H' w => hd σ' H' (e1.trans w.2) w.1⟩
/-- the same where each turn may make lambdas -/
theorem q_forB {P : Nat → V → Hp → Prop} {n : Nat} {Pt : Addr} {q : Str} (stB : ∀ i v H0 H1, ExB Pt H0 H1 → TabS H0 Pt q → P i v H0 → P i v H1) (h : EvLJ te σ H P n) (tab : TabS H Pt q) (S : L2.St → Prop) (h0 : S σ)
    (hs : ∀ i x σ' H' H0, i < n → ExB Pt H H' → ExB Pt H0 H' → TabS H' Pt q → P i x H' → S σ' → g x σ' H' fun σ2 H2 => tu { D with nx := fun σ2 H2 => S σ2 ∧ ExB Pt H0 H2 ∧ TabS H2 Pt q, ct := fun σ2 H2 => S σ2 ∧ ExB Pt H0 H2 ∧ TabS H2 Pt q, bk := tz D } σ2 H2) (hd : ∀ σ' H', ExB Pt H H' → TabS H' Pt q → S σ' → tz D σ' H') : tSeq (tFor (iList K te) g tu) tz D σ H :=
  h H (Ex.refl H) _ fun vs p H1 e1 h1 hl hv => ⟨p, rfl, ⟨vs, sq_of h1⟩, for_list (K := K) (xs := vs) (D := { D with nx := tz D }) (fun _ σ' H' => S σ' ∧ ExB Pt H1 H' ∧ TabS H' Pt q) ⟨h0, ExB.refl _ _, tabS_ex tab e1⟩ (fun i σ' H' _ w => sq_of (exB_ne w.2.1 (tabS_ex tab e1) h1 fun _ z => nomatch z)) (fun i x σ' H' hi w =>
    hs i x σ' H' _ (hl ▸ (List.getElem?_eq_some_iff.mp hi).1) ((ExB.of e1).trans w.2.1) w.2.1 w.2.2 (stB i _ _ _ w.2.1 (tabS_ex tab e1) (hv i x hi)) w.1) fun σ' H' w => hd σ' H' ((ExB.of e1).trans w.2.1) w.2.2 w.1⟩
theorem q_clear {l : Addr} {xs : List V} (hl : H l = some (.lst xs)) (ha : Ev ta σ H (.ref l)) (k : ∀ H1, Ex H H1 → tz D σ (upd H1 l (.lst []))) : tSeq (tDrop (tBM0 K "list" rClear ta)) tz D σ H :=
  ha H (Ex.refl H) _ fun H1 e1 => ⟨Or.inl ⟨rfl, _, sq_of (e1 _ _ hl)⟩, l, xs, rfl, rfl, e1 _ _ hl, k H1 e1⟩
end
/-! ### comprehensions of new objects -/
section
variable {K : PySem.W.Frag} {σ : L2.St} {H H' : Hp} {ta tb te tx tc : TE} {t u : TT} {x y z v w : V} {D : Ends} {tu tw tz : TS} {g : TG} {r r' : R2} {i j : Nat}
/-- a new object -/
def EvO (te : TE) (σ : L2.St) (H : Hp) (o : HO) : Prop := ∀ H1, Ex H H1 → ∀ Q : VK, (∀ p H2, H1 p = none → Ex H1 H2 → H2 p = some o → Q (.ref p) H2) → te σ H1 Q
/-- a new list of n objects, the k-th one ob k -/
def EvLO (te : TE) (σ : L2.St) (H : Hp) (ob : Nat → HO) (n : Nat) : Prop := ∀ H1, Ex H H1 → ∀ Q : VK, (∀ (ps : List Addr) p H2, H1 p = none → Ex H1 H2 → H2 p = some (.lst (ps.map V.ref)) → ps.length = n → (∀ k q, ps[k]? = some q → H2 q = some (ob k)) → Q (.ref p) H2) → te σ H1 Q
def CwO (H : Hp) (ob : Nat → HO) (Dl : Addr) (i : Nat) (H' : Hp) : Prop := H Dl = none ∧ Ex H H' ∧ ∃ ps : List Addr, H' Dl = some (.lst (ps.map V.ref)) ∧ ps.length = i ∧ ∀ k q, ps[k]? = some q → q ≠ Dl ∧ H' q = some (ob k)
theorem cwo_start {H : Hp} {ob : Nat → HO} {Dl : Addr} (h : H Dl = none) : CwO H ob Dl 0 (upd H Dl (.lst [])) := ⟨h, Ex.new h, [], upd_same, rfl, fun k q z => nomatch z⟩
theorem cwo_turn {ob : Nat → HO} {Dl : Addr} {σ2 : L2.St} (p : CwO H ob Dl i H') (hi : i < 50000) (he : EvO te σ2 H (ob i)) :
    tYes σ2 H' fun b H3 => if b = true then te σ2 H3 fun y H4 => ∃ acc, H4 Dl = some (.lst acc) ∧ acc.length < sizeLine ∧ CwO H ob Dl (i + 1) (upd H4 Dl (.lst (acc ++ [y]))) else CwO H ob Dl (i + 1) H3 := by
  obtain ⟨p1, p2, ps, p3, p4, p5⟩ := p
  refine he H' p2 _ fun q H4 hq e4 h4 => ⟨_, e4 _ _ p3, sz_lt (by rw [List.length_map]; omega), p1, Ex.mut (p2.trans e4) p1, ps ++ [q], ?_, ?_, fun k q' hk => ?_⟩
  · rw [upd_same, List.map_append]
    rfl
  · rw [List.length_append, p4]
    rfl
  · have nq : q ≠ Dl := fun z => by
      rw [z, p3] at hq
      cases hq
    by_cases hlt : k < ps.length
    · rw [List.getElem?_append_left hlt] at hk
      obtain ⟨n1, n2⟩ := p5 k q' hk
      exact ⟨n1, by rw [upd_ne n1]; exact e4 _ _ n2⟩
    · rw [List.getElem?_append_right (by omega)] at hk
      have hk0 : k - ps.length = 0 := by
        have := (List.getElem?_eq_some_iff.mp hk).1
        simp at this
        omega
      rw [hk0] at hk
      obtain rfl : q = q' := Option.some.inj hk
      have : k = i := by omega
      subst this
      exact ⟨nq, by rw [upd_ne nq]; exact h4⟩
theorem cwo_end {H0 H1 : Hp} {ob : Nat → HO} {Dl : Addr} {n : Nat} {Q : VK} (e : Ex H0 H1) (p : CwO H1 ob Dl n H') (q : ∀ (ps : List Addr) p H2, H0 p = none → Ex H0 H2 → H2 p = some (.lst (ps.map V.ref)) → ps.length = n → (∀ k q, ps[k]? = some q → H2 q = some (ob k)) → Q (.ref p) H2) : Q (.ref Dl) H' := by
  obtain ⟨p1, p2, ps, p3, p4, p5⟩ := p
  exact q ps Dl H' (fresh_back e p1) (e.trans p2) p3 p4 fun k q hk => (p5 k q hk).2
theorem elo_R2 {ta : TA} {vs : List Nat} {lo n : Int} (ob : Nat → HO) (h : EvA ta σ H [.int lo, .int n]) (hn : 0 ≤ lo ∧ lo ≤ 40000 ∧ -40000 ≤ n ∧ n ≤ 40000) (hw : ∀ x, wipe ((wipe σ vs).set j (some x)) vs = wipe σ vs)
    (he : ∀ (i : Nat) H1, Ex H H1 → lo + (i : Int) < n → EvO te ((wipe σ vs).set j (some (.int (lo + (i : Int))))) H1 (ob i)) :
    EvLO (tLc (iRng2 ta) (gName j) tYes te vs) σ H ob (n - lo).toNat := fun H0 e Q q => h H0 e _ fun H1 e1 => ⟨lo, n, rfl, ⟨by omega, by omega, by omega, by omega⟩, fun Dl hD =>
  lc_range (lo := lo) (n := (n - lo).toNat) (CwO H1 ob Dl) (cwo_start hD) (fun i H' hi p => ⟨hw _, cwo_turn p (by omega) (he i H1 (e.trans e1) (by omega))⟩) (fun H' p => cwo_end e1 p q)⟩
theorem elo_L {a : Addr} {xs : List V} {tl : TE} {vs : List Nat} (ob : Nat → HO) (h : Ev tl σ H (.ref a)) (hx : SqL K H a xs) (hz : xs.length ≤ 40000) (hw : ∀ x, wipe ((wipe σ vs).set j (some x)) vs = wipe σ vs)
    (he : ∀ (i : Nat) (x : V) H1, Ex H H1 → xs[i]? = some x → EvO te ((wipe σ vs).set j (some x)) H1 (ob i)) :
    EvLO (tLc (iList K tl) (gName j) tYes te vs) σ H ob xs.length := fun H0 e Q q => h H0 e _ fun H1 e1 => ⟨a, rfl, ⟨xs, ex_l (e.trans e1) hx⟩, fun Dl hD =>
  lc_list (xs := xs) (CwO H1 ob Dl) (cwo_start hD) (fun i H' _ p => ex_l ((e.trans e1).trans p.2.1) hx) (fun i x H' hi p => ⟨hw x, cwo_turn p (by have := (List.getElem?_eq_some_iff.mp hi).1; omega) (he i x H1 (e.trans e1) hi)⟩) (fun H' p => cwo_end e1 p q)⟩
theorem elo_NU {xs : List V} {tl : TE} {vs : List Nat} (ob : Nat → HO) (h : EvU tl σ H xs) (hz : xs.length ≤ 40000) (hw : ∀ x, wipe ((wipe σ vs).set j (some x)) vs = wipe σ vs)
    (he : ∀ (i : Nat) (x : V) H1, Ex H H1 → xs[i]? = some x → EvO te ((wipe σ vs).set j (some x)) H1 (ob i)) :
    EvLO (tLc (iTup K tl) (gName j) tYes te vs) σ H ob xs.length := fun H0 e Q q => h H0 e _ fun a H1 ha e1 hx => ⟨a, rfl, ⟨xs, st_of hx⟩, fun Dl hD =>
  lc_tup (xs := xs) (CwO H1 ob Dl) (cwo_start hD) (fun i H' _ p => st_of (p.2.1 a _ hx)) (fun i x H' hi p => ⟨hw x, cwo_turn p (by have := (List.getElem?_eq_some_iff.mp hi).1; omega) (he i x H1 (e.trans e1) hi)⟩) (fun H' p => cwo_end e1 p q)⟩
theorem eo_u {xs : List V} (h : EvU te σ H xs) : EvO te σ H (.tup xs) := h
theorem eo_l {xs : List V} (h : EvL te σ H xs) : EvO te σ H (.lst xs) := h
theorem el_listT {p : Addr} {xs : List V} (ha : Ev ta σ H (.ref p)) (h : SqT K H p xs) : EvL (tCB (rListS K) (tCons ta tNil)) σ H xs := fun H1 e Q q =>
  ha H1 e _ fun H2 e2 => ⟨p, xs, rfl, Or.inr (ex_t (e.trans e2) h), fun l hl => q l _ (fresh_back e2 hl) (e2.trans (Ex.new hl)) upd_same⟩
/-- three new lists against [[1, 2, 3]] * 3 -/
theorem ev_ne33 (h1 : EvLO ta σ H (fun _ => .lst (([1, 2, 3] : List Int).map V.int)) 3) (h2 : EvL te σ H (([1, 2, 3] : List Int).map V.int)) : Ev (tOp (rNeD K) ta (tOp rRep (tLst (tCons te tNil)) (tC (.int 3)))) σ H (.bl false) := fun H1 e Q q =>
  h1 H1 e _ fun ps p H2 hp e2 hl hn hk => h2 H2 (e.trans e2) _ fun b H3 hb e3 h3 => ⟨sz_of (by show 1 ≤ 100000; decide), fun c hc => ⟨c, 3, [.ref b], rfl, rfl, upd_same, by decide, by decide, sz_of (by show 1 * 3 ≤ 100000; decide), fun d hd => by
    have eC := Ex.new (o := .lst [V.ref b]) hc
    have eD := Ex.new (o := .lst ((List.replicate 3 [V.ref b]).flatten)) hd
    have e4 := eC.trans eD
    match ps, hn, hk, hl with
    | [p1, p2, p3], _, hk, hl =>
      have k1 := (e3.trans e4) _ _ (hk 0 p1 rfl)
      have k2 := (e3.trans e4) _ _ (hk 1 p2 rfl)
      have k3 := (e3.trans e4) _ _ (hk 2 p3 rfl)
      have kb := e4 _ _ h3
      have di : ∀ {a : Addr} {HH : Hp}, HH a = some (.lst (([1, 2, 3] : List Int).map V.int)) → Dp K HH (.ref a) (.list (([1, 2, 3] : List Int).map PyData.int)) := fun h => .lst (sq_of h) (dpAll_ints _)
      exact ⟨_, _, .lst (sq_of ((e3.trans e4) _ _ hl)) (.cons (di k1) (.cons (di k2) (.cons (di k3) .nil))), .lst (sq_of upd_same) (.cons (di kb) (.cons (di kb) (.cons (di kb) .nil))), rfl, rfl, q _ ((e2.trans e3).trans e4)⟩⟩⟩
end
/-! ### displays that make lambdas -/
section
variable {K : PySem.W.Frag} {σ : L2.St} {H H' : Hp} {ta tb te tx tc : TE} {t u : TT} {x y z v w : V} {D : Ends} {tu tw tz : TS} {g : TG} {r r' : R2} {i j : Nat} {Pt : Addr} {q : Str}
def StB (Pt : Addr) (q : Str) (R : V → Hp → Prop) : Prop := ∀ v H H', ExB Pt H H' → TabS H Pt q → R v H → R v H'
def EvQB (Pt : Addr) (q : Str) (te : TE) (σ : L2.St) (H : Hp) (R : V → Hp → Prop) : Prop := ∀ Q : VK, (∀ v H2, ExB Pt H H2 → TabS H2 Pt q → R v H2 → Q v H2) → te σ H Q
def EvAB (Pt : Addr) (q : Str) (ta : TA) (σ : L2.St) (H : Hp) (R : Nat → V → Hp → Prop) (n : Nat) : Prop := ∀ Q : List V → Hp → Prop, (∀ vs H2, ExB Pt H H2 → TabS H2 Pt q → vs.length = n → (∀ i v, vs[i]? = some v → R i v H2) → Q vs H2) → ta σ H Q
theorem eab_nil {R : Nat → V → Hp → Prop} (t : TabS H Pt q) : EvAB Pt q tNil σ H R 0 := fun Q k => k [] H (ExB.refl _ _) t rfl fun _ _ z => nomatch z
theorem eab_cons {R : Nat → V → Hp → Prop} {tr : TA} {n : Nat} (st : StB Pt q (R 0)) (h : EvQB Pt q ta σ H (R 0)) (hr : ∀ H1, TabS H1 Pt q → EvAB Pt q tr σ H1 (fun i => R (i + 1)) n) : EvAB Pt q (tCons ta tr) σ H R (n + 1) := fun Q k =>
  h _ fun x H2 e2 t2 hx => hr H2 t2 _ fun vs H3 e3 t3 hl hv => k (x :: vs) H3 (e2.trans e3) t3 (by rw [List.length_cons, hl]) fun i v hi => by
    cases i with
    | zero =>
      obtain rfl : x = v := Option.some.inj hi
      exact st _ _ _ e3 t2 hx
    | succ i => exact hv i v hi
theorem q_asgAB {R : Nat → V → Hp → Prop} {ta : TA} {n : Nat} (st : ∀ i, StB Pt q (R i)) (h : EvAB Pt q ta σ H R n) (hn : n ≤ 100000) (k : ∀ vs p H1, ExB Pt H H1 → TabS H1 Pt q → H1 p = some (.lst vs) → vs.length = n → (∀ i v, vs[i]? = some v → R i v H1) → tz D (σ.set j (some (.ref p))) H1) : tSeq (tAsg (tLst ta) (gName j)) tz D σ H :=
  h _ fun vs H2 e2 t2 hl hv => ⟨sz_of (by omega), fun p hp => k vs p _ (e2.trans (ExB.of (Ex.new hp))) (tabS_ex t2 (Ex.new hp)) upd_same hl fun i v hi => st i _ _ _ (ExB.of (Ex.new hp)) t2 (hv i v hi)⟩
/-- a list in a slot and a display behind it -/
theorem q_catAB {R : Nat → V → Hp → Prop} {tb : TA} {a : Addr} {us : List V} {m n : Nat} (st : ∀ i, StB Pt q (R i)) (tab : TabS H Pt q) (ha : Ev te σ H (.ref a)) (hs : H a = some (.lst us)) (hm : us.length = m) (hv : ∀ i v, us[i]? = some v → R i v H) (h : ∀ H1, TabS H1 Pt q → EvAB Pt q tb σ H1 (fun i => R (m + i)) n) (hn : m + n ≤ 100000)
    (k : ∀ vs p H1, ExB Pt H H1 → TabS H1 Pt q → H1 p = some (.lst vs) → vs.length = m + n → (∀ i v, vs[i]? = some v → R i v H1) → tz D (σ.set j (some (.ref p))) H1) : tSeq (tAsg (tOp rCat te (tLst tb)) (gName j)) tz D σ H :=
  ha H (Ex.refl _) _ fun H1 e1 => h H1 (tabS_ex tab e1) _ fun ws H2 e2 t2 hl hw => ⟨sz_of (by omega), fun c hc => by
    have e12 : ExB Pt H1 (upd H2 c (.lst ws)) := e2.trans (ExB.of (Ex.new hc))
    have a2 : upd H2 c (.lst ws) a = some (.lst us) := exB_ne e12 (tabS_ex tab e1) (e1 _ _ hs) fun _ z => nomatch z
    refine ⟨a, c, us, ws, rfl, rfl, a2, upd_same, sz_of (by omega), fun d hd => ?_⟩
    have e3 := Ex.new (o := .lst (us ++ ws)) hd
    have t3 := tabS_ex (tabS_ex t2 (Ex.new (o := .lst ws) hc)) e3
    refine k (us ++ ws) d _ ((ExB.of e1).trans (e12.trans (ExB.of e3))) t3 upd_same (by rw [List.length_append, hl, hm]) fun i v hi => ?_
    by_cases hlt : i < us.length
    · rw [List.getElem?_append_left hlt] at hi
      exact st i _ _ _ ((ExB.of e1).trans (e12.trans (ExB.of e3))) tab (hv i v hi)
    · rw [List.getElem?_append_right (by omega)] at hi
      have z := st _ _ _ _ ((ExB.of (Ex.new hc)).trans (ExB.of e3)) t2 (hw _ _ hi)
      rwa [show m + (i - us.length) = i by omega] at z⟩
/-- the last statement: a loop whose turns may make lambdas -/
theorem s_forB {P : Nat → V → Hp → Prop} {n : Nat} (stB : ∀ i, StB Pt q (P i)) (h : EvLJ te σ H P n) (tab : TabS H Pt q) (S : L2.St → Prop) (h0 : S σ)
    (hs : ∀ i x σ' H' H0, i < n → ExB Pt H H' → ExB Pt H0 H' → TabS H' Pt q → P i x H' → S σ' → g x σ' H' fun σ2 H2 => tu { D with nx := fun σ2 H2 => S σ2 ∧ ExB Pt H0 H2 ∧ TabS H2 Pt q, ct := fun σ2 H2 => S σ2 ∧ ExB Pt H0 H2 ∧ TabS H2 Pt q, bk := D.nx } σ2 H2) (hd : ∀ σ' H', ExB Pt H H' → TabS H' Pt q → S σ' → D.nx σ' H') : tFor (iList K te) g tu D σ H :=
  q_forB (tz := fun D => D.nx) (D := D) (fun i v H0 H1 => stB i v H0 H1) h tab S h0 hs hd
theorem rep_one (n : Nat) (v : V) : (List.replicate n [v]).flatten = List.replicate n v := by
  induction n with
  | zero => rfl
  | succ n ih =>
    rw [List.replicate_succ, List.flatten_cons, ih, List.replicate_succ]
    rfl
end
end PA

set_option Elab.async false
set_option linter.all false
set_option maxRecDepth 100000
set_option maxHeartbeats 4000000
namespace PA
open PySem PySem.Spec PyProof.Rows L2 Evl
/-! ### the written table of small rows -/
def KTup (K : PySem.W.Frag) (a : Addr) (ns : List Int) : Prop := ∀ H, SqT K H a (ns.map V.int)
def Firsts (K : PySem.W.Frag) (d : Addr) : Prop := ∀ l : Int, l = 1 ∨ l = 4 ∨ l = 5 → ∃ a, KInt K d l (.ref a) ∧ KTup K a (small l)
theorem ktup_mk {K : PySem.W.Frag} {a : Addr} {dd : Option Addr} {its : Array Value} {n : Nat} {sl : Array (Option Value)} {ns : List Int} (h : K.lookup a = some ⟨.type "tuple", dd, .seq its n, sl⟩) (hz : its.size ≤ 100) (hv : Vals (ns.map V.int) its.toList) : KTup K a ns :=
  fun _ => .inr ⟨_, its, n, h, rfl, rfl, Nat.le_trans hz (by decide), hv⟩
theorem firsts_mk {K : PySem.W.Frag} {d a1 a4 a5 : Addr} {t1 t4 t5 : Tok} {n : Nat} {dd1 dd4 dd5 : Option Addr} {n1 n4 n5 : Nat} {s1 s4 s5 : Array (Option Value)} {u0 u1 u2 u3 u4 u5 u6 u7 u8 u9 : Tok}
    (h : K.lookup d = some ⟨.type "dict", none, .dict #[⟨1, .int 1 t1, .ref a1⟩, ⟨4, .int 4 t4, .ref a4⟩, ⟨5, .int 5 t5, .ref a5⟩] n, #[]⟩)
    (h1 : K.lookup a1 = some ⟨.type "tuple", dd1, .seq #[.int 1 u0] n1, s1⟩) (h4 : K.lookup a4 = some ⟨.type "tuple", dd4, .seq #[.int 1 u1, .int 5 u2, .int 3 u3, .int 4 u4] n4, s4⟩)
    (h5 : K.lookup a5 = some ⟨.type "tuple", dd5, .seq #[.int 8 u5, .int 3 u6, .int 1 u7, .int 6 u8, .int 2 u9] n5, s5⟩) : Firsts K d := by
  have keys : ∀ e ∈ (#[⟨1, .int 1 t1, .ref a1⟩, ⟨4, .int 4 t4, .ref a4⟩, ⟨5, .int 5 t5, .ref a5⟩] : Array DictEntry), ∃ k t, e.key = .int k t ∧ e.hash = hashInt k := by
    intro e he
    simp only [List.mem_toArray, List.mem_cons, List.not_mem_nil, or_false] at he
    rcases he with rfl | rfl | rfl
    · exact ⟨1, t1, rfl, show (1 : Int) = hashInt 1 by decide⟩
    · exact ⟨4, t4, rfl, show (4 : Int) = hashInt 4 by decide⟩
    · exact ⟨5, t5, rfl, show (5 : Int) = hashInt 5 by decide⟩
  intro l hl
  rcases hl with rfl | rfl | rfl
  · exact ⟨a1, ⟨_, n, .ref a1, h, keys, rfl, rfl⟩, ktup_mk h1 (show 1 ≤ 100 by decide) (.cons ⟨_, rfl⟩ .nil)⟩
  · exact ⟨a4, ⟨_, n, .ref a4, h, keys, rfl, rfl⟩, ktup_mk h4 (show 4 ≤ 100 by decide) (.cons ⟨_, rfl⟩ (.cons ⟨_, rfl⟩ (.cons ⟨_, rfl⟩ (.cons ⟨_, rfl⟩ .nil))))⟩
  · exact ⟨a5, ⟨_, n, .ref a5, h, keys, rfl, rfl⟩, ktup_mk h5 (show 5 ≤ 100 by decide) (.cons ⟨_, rfl⟩ (.cons ⟨_, rfl⟩ (.cons ⟨_, rfl⟩ (.cons ⟨_, rfl⟩ (.cons ⟨_, rfl⟩ .nil)))))⟩
def topS (i : Nat) : Stmt := PySem.Challenge.pw_pairsapart_k07_whole_known.main.body.getD i (.Pass ⟨0, 0, 0, 0⟩)
abbrev s_Can_shows : Stmt := inClass (topS 2) 0
abbrev N_Can_shows : List Str := ["self", "last"]
theorem sc_Can_shows : FnScope ["self", "last"] ["self", "last"] (defScope s_Can_shows) := ⟨rfl, rfl, rfl, by decide +kernel, rfl, by decide +kernel, by decide +kernel⟩
abbrev s_Barred_shows : Stmt := inClass (topS 3) 0
abbrev N_Barred_shows : List Str := ["self", "last"]
theorem sc_Barred_shows : FnScope ["self", "last"] ["self", "last"] (defScope s_Barred_shows) := ⟨rfl, rfl, rfl, by decide +kernel, rfl, by decide +kernel, by decide +kernel⟩
abbrev s_is_right : Stmt := topS 4
abbrev N_is_right : List Str := ["row", "number", "first"]
theorem sc_is_right : FnScope ["row", "number", "first"] ["row", "number"] (defScope s_is_right) := ⟨rfl, rfl, rfl, by decide +kernel, rfl, by decide +kernel, by decide +kernel⟩
abbrev s_Good_shows : Stmt := inClass (topS 5) 0
abbrev N_Good_shows : List Str := ["self", "row", "number"]
theorem sc_Good_shows : FnScope ["self", "row", "number"] ["self", "row"] (defScope s_Good_shows) := ⟨rfl, rfl, rfl, by decide +kernel, rfl, by decide +kernel, by decide +kernel⟩
abbrev s_Off___init__ : Stmt := inClass (topS 6) 0
abbrev N_Off___init__ : List Str := ["self", "number"]
theorem sc_Off___init__ : FnScope ["self", "number"] ["self", "number"] (defScope s_Off___init__) := ⟨rfl, rfl, rfl, by decide +kernel, rfl, by decide +kernel, by decide +kernel⟩
abbrev s_Off_shows : Stmt := inClass (topS 6) 1
abbrev N_Off_shows : List Str := ["self", "row"]
theorem sc_Off_shows : FnScope ["self", "row"] ["self", "row"] (defScope s_Off_shows) := ⟨rfl, rfl, rfl, by decide +kernel, rfl, by decide +kernel, by decide +kernel⟩
abbrev s_is_number : Stmt := topS 17
abbrev N_is_number : List Str := ["thing"]
theorem sc_is_number : FnScope ["thing"] ["thing"] (defScope s_is_number) := ⟨rfl, rfl, rfl, by decide +kernel, rfl, by decide +kernel, by decide +kernel⟩
abbrev s_asked_last : Stmt := topS 18
abbrev N_asked_last : List Str := ["last"]
theorem sc_asked_last : FnScope ["last"] ["last"] (defScope s_asked_last) := ⟨rfl, rfl, rfl, by decide +kernel, rfl, by decide +kernel, by decide +kernel⟩
abbrev s_can : Stmt := topS 19
abbrev N_can : List Str := ["last"]
theorem sc_can : FnScope ["last"] ["last"] (defScope s_can) := ⟨rfl, rfl, rfl, by decide +kernel, rfl, by decide +kernel, by decide +kernel⟩
abbrev s_asked_row : Stmt := topS 20
abbrev N_asked_row : List Str := ["last"]
theorem sc_asked_row : FnScope ["last"] ["last"] (defScope s_asked_row) := ⟨rfl, rfl, rfl, by decide +kernel, rfl, by decide +kernel, by decide +kernel⟩
abbrev s_first_by_fours : Stmt := topS 21
abbrev N_first_by_fours : List Str := ["part", "number", "told"]
theorem sc_first_by_fours : FnScope ["part", "number", "told"] ["part", "number"] (defScope s_first_by_fours) := ⟨rfl, rfl, rfl, by decide +kernel, rfl, by decide +kernel, by decide +kernel⟩
abbrev s_first_by_ones : Stmt := topS 22
abbrev N_first_by_ones : List Str := ["part", "number", "told"]
theorem sc_first_by_ones : FnScope ["part", "number", "told"] ["part", "number"] (defScope s_first_by_ones) := ⟨rfl, rfl, rfl, by decide +kernel, rfl, by decide +kernel, by decide +kernel⟩
abbrev s_first_of : Stmt := topS 23
abbrev N_first_of : List Str := ["last", "number"]
theorem sc_first_of : FnScope ["last", "number"] ["last", "number"] (defScope s_first_of) := ⟨rfl, rfl, rfl, by decide +kernel, rfl, by decide +kernel, by decide +kernel⟩
abbrev s_both : Stmt := topS 24
abbrev N_both : List Str := ["last", "number", "first"]
theorem sc_both : FnScope ["last", "number", "first"] ["last", "number"] (defScope s_both) := ⟨rfl, rfl, rfl, by decide +kernel, rfl, by decide +kernel, by decide +kernel⟩
abbrev s_places_of : Stmt := topS 25
abbrev N_places_of : List Str := ["last", "number"]
theorem sc_places_of : FnScope ["last", "number"] ["last", "number"] (defScope s_places_of) := ⟨rfl, rfl, rfl, by decide +kernel, rfl, by decide +kernel, by decide +kernel⟩
abbrev s_at_place : Stmt := topS 26
abbrev N_at_place : List Str := ["last", "place", "part", "middle", "one", "some", "more", "number"]
theorem sc_at_place : FnScope ["last", "place", "part", "middle", "one", "some", "more", "number"] ["last", "place"] (defScope s_at_place) := ⟨rfl, rfl, rfl, by decide +kernel, rfl, by decide +kernel, by decide +kernel⟩
abbrev s_number_at : Stmt := topS 27
abbrev N_number_at : List Str := ["last", "place"]
theorem sc_number_at : FnScope ["last", "place"] ["last", "place"] (defScope s_number_at) := ⟨rfl, rfl, rfl, by decide +kernel, rfl, by decide +kernel, by decide +kernel⟩
abbrev s_row : Stmt := topS 28
abbrev N_row : List Str := ["last", "found", "number", "place"]
theorem sc_row : FnScope ["last", "found", "number", "place"] ["last"] (defScope s_row) := ⟨rfl, rfl, rfl, by decide +kernel, rfl, by decide +kernel, by decide +kernel⟩
abbrev s_asked_list : Stmt := topS 31
abbrev N_asked_list : List Str := ["row", "one"]
theorem sc_asked_list : FnScope ["row", "one"] ["row"] (defScope s_asked_list) := ⟨rfl, rfl, rfl, by decide +kernel, rfl, by decide +kernel, by decide +kernel⟩
abbrev s_told : Stmt := topS 32
abbrev N_told : List Str := ["row", "number"]
theorem sc_told : FnScope ["row", "number"] ["row"] (defScope s_told) := ⟨rfl, rfl, rfl, by decide +kernel, rfl, by decide +kernel, by decide +kernel⟩
abbrev s_mirrored : Stmt := topS 33
abbrev N_mirrored : List Str := ["row"]
theorem sc_mirrored : FnScope ["row"] ["row"] (defScope s_mirrored) := ⟨rfl, rfl, rfl, by decide +kernel, rfl, by decide +kernel, by decide +kernel⟩
abbrev s_three_by : Stmt := topS 35
abbrev N_three_by : List Str := ["last", "number", "first"]
theorem sc_three_by : FnScope ["last", "number", "first"] ["last", "number"] (defScope s_three_by) := ⟨rfl, rfl, rfl, by decide +kernel, rfl, by decide +kernel, by decide +kernel⟩
abbrev s_three_of : Stmt := topS 36
abbrev N_three_of : List Str := ["last", "number"]
theorem sc_three_of : FnScope ["last", "number"] ["last", "number"] (defScope s_three_of) := ⟨rfl, rfl, rfl, by decide +kernel, rfl, by decide +kernel, by decide +kernel⟩
abbrev s__law_refused : Stmt := topS 38
abbrev N__law_refused : List Str := ["_law_ask", "_law_thing", "_law_due", "error", "_law_kinds", "_law_kind"]
theorem sc__law_refused : FnScope ["_law_ask", "_law_thing", "_law_due", "error", "_law_kinds", "_law_kind"] ["_law_ask", "_law_thing", "_law_due"] (defScope s__law_refused) := ⟨rfl, rfl, rfl, by decide +kernel, rfl, by decide +kernel, by decide +kernel⟩
abbrev s__law_plain : Stmt := topS 39
abbrev N__law_plain : List Str := ["_law_thing", "_law_one"]
theorem sc__law_plain : FnScope ["_law_thing", "_law_one"] ["_law_thing"] (defScope s__law_plain) := ⟨rfl, rfl, rfl, by decide +kernel, rfl, by decide +kernel, by decide +kernel⟩
abbrev s__law_truths : Stmt := topS 40
abbrev N__law_truths : List Str := ["_law_things", "_law_one"]
theorem sc__law_truths : FnScope ["_law_things", "_law_one"] ["_law_things"] (defScope s__law_truths) := ⟨rfl, rfl, rfl, by decide +kernel, rfl, by decide +kernel, by decide +kernel⟩
abbrev s__law_long_right : Stmt := topS 41
abbrev N__law_long_right : List Str := ["_law_whole", "_law_last", "_law_found", "_law_one", "_law_other", "_law_bent", "_law_answer", "_law_place"]
theorem sc__law_long_right : FnScope ["_law_whole", "_law_last", "_law_found", "_law_one", "_law_other", "_law_bent", "_law_answer", "_law_place"] ["_law_whole"] (defScope s__law_long_right) := ⟨rfl, rfl, rfl, by decide +kernel, rfl, by decide +kernel, by decide +kernel⟩
abbrev s__law_known_right : Stmt := topS 42
abbrev N__law_known_right : List Str := ["_law_rest", "_law_rows", "_law_some", "_law_due", "_law_answer", "_law_first", "_law_kept", "_law_three", "_law_great", "_law_one", "_law_last", "_law_place"]
theorem sc__law_known_right : FnScope ["_law_rest", "_law_rows", "_law_some", "_law_due", "_law_answer", "_law_first", "_law_kept", "_law_three", "_law_great", "_law_one", "_law_last", "_law_place"] ["_law_rest"] (defScope s__law_known_right) := ⟨rfl, rfl, rfl, by decide +kernel, rfl, by decide +kernel, by decide +kernel⟩
abbrev s__law_first_right : Stmt := topS 43
abbrev N__law_first_right : List Str := ["_law_whole", "_law_asks", "_law_ask", "_law_thing", "_law_due", "_law_bad", "_law_spot"]
theorem sc__law_first_right : FnScope ["_law_whole", "_law_asks", "_law_ask", "_law_thing", "_law_due", "_law_bad", "_law_spot"] ["_law_whole"] (defScope s__law_first_right) := ⟨rfl, rfl, rfl, by decide +kernel, rfl, by decide +kernel, by decide +kernel⟩
abbrev s__law_threes_promises : Stmt := topS 44
abbrev N__law_threes_promises : List Str := ["_law_last", "_law_found", "_law_three", "_law_number"]
theorem sc__law_threes_promises : FnScope ["_law_last", "_law_found", "_law_three", "_law_number"] ["_law_last"] (defScope s__law_threes_promises) := ⟨rfl, rfl, rfl, by decide +kernel, rfl, by decide +kernel, by decide +kernel⟩
abbrev s__law_promises_right : Stmt := topS 45
abbrev N__law_promises_right : List Str := ["_law_great", "_law_cases", "_law_last", "_law_due", "_law_numbers", "_law_number", "_law_one", "_law_other", "_law_place"]
theorem sc__law_promises_right : FnScope ["_law_great", "_law_cases", "_law_last", "_law_due", "_law_numbers", "_law_number", "_law_one", "_law_other", "_law_place"] [] (defScope s__law_promises_right) := ⟨rfl, rfl, rfl, by decide +kernel, rfl, by decide +kernel, by decide +kernel⟩
abbrev s__law_judged_promises : Stmt := topS 46
abbrev N__law_judged_promises : List Str := ["_law_four", "_law_cases", "_law_number", "_law_some", "_law_due"]
theorem sc__law_judged_promises : FnScope ["_law_four", "_law_cases", "_law_number", "_law_some", "_law_due"] [] (defScope s__law_judged_promises) := ⟨rfl, rfl, rfl, by decide +kernel, rfl, by decide +kernel, by decide +kernel⟩
abbrev s_law : Stmt := topS 47
abbrev N_law : List Str := ["_law_script", "_law_whole"]
theorem sc_law : FnScope ["_law_script", "_law_whole"] ["_law_script"] (defScope s_law) := ⟨rfl, rfl, rfl, by decide +kernel, rfl, by decide +kernel, by decide +kernel⟩
/-- what the top has left -/
structure Tx (K : PySem.W.Frag) (mg : Str → Option Value) where
  a_Can_shows : Addr
  d_Can_shows : FuncData
  F_Can_shows : Fun K "shows" "Can.shows" s_Can_shows a_Can_shows d_Can_shows
  b_Can_shows : Binds K d_Can_shows ["self", "last"] []
  a_Barred_shows : Addr
  d_Barred_shows : FuncData
  F_Barred_shows : Fun K "shows" "Barred.shows" s_Barred_shows a_Barred_shows d_Barred_shows
  b_Barred_shows : Binds K d_Barred_shows ["self", "last"] []
  a_is_right : Addr
  d_is_right : FuncData
  F_is_right : Fun K "is_right" "is_right" s_is_right a_is_right d_is_right
  b_is_right : Binds K d_is_right ["row", "number"] []
  g_is_right : mg "is_right" = some (.ref a_is_right)
  a_Good_shows : Addr
  d_Good_shows : FuncData
  F_Good_shows : Fun K "shows" "Good.shows" s_Good_shows a_Good_shows d_Good_shows
  b_Good_shows : Binds K d_Good_shows ["self", "row"] []
  a_Off___init__ : Addr
  d_Off___init__ : FuncData
  F_Off___init__ : Fun K "__init__" "Off.__init__" s_Off___init__ a_Off___init__ d_Off___init__
  b_Off___init__ : Binds K d_Off___init__ ["self", "number"] []
  a_Off_shows : Addr
  d_Off_shows : FuncData
  F_Off_shows : Fun K "shows" "Off.shows" s_Off_shows a_Off_shows d_Off_shows
  b_Off_shows : Binds K d_Off_shows ["self", "row"] []
  a_is_number : Addr
  d_is_number : FuncData
  F_is_number : Fun K "is_number" "is_number" s_is_number a_is_number d_is_number
  b_is_number : Binds K d_is_number ["thing"] []
  g_is_number : mg "is_number" = some (.ref a_is_number)
  a_asked_last : Addr
  d_asked_last : FuncData
  F_asked_last : Fun K "asked_last" "asked_last" s_asked_last a_asked_last d_asked_last
  b_asked_last : Binds K d_asked_last ["last"] []
  g_asked_last : mg "asked_last" = some (.ref a_asked_last)
  a_can : Addr
  d_can : FuncData
  F_can : Fun K "can" "can" s_can a_can d_can
  b_can : Binds K d_can ["last"] []
  g_can : mg "can" = some (.ref a_can)
  a_asked_row : Addr
  d_asked_row : FuncData
  F_asked_row : Fun K "asked_row" "asked_row" s_asked_row a_asked_row d_asked_row
  b_asked_row : Binds K d_asked_row ["last"] []
  g_asked_row : mg "asked_row" = some (.ref a_asked_row)
  a_first_by_fours : Addr
  d_first_by_fours : FuncData
  F_first_by_fours : Fun K "first_by_fours" "first_by_fours" s_first_by_fours a_first_by_fours d_first_by_fours
  b_first_by_fours : Binds K d_first_by_fours ["part", "number"] []
  g_first_by_fours : mg "first_by_fours" = some (.ref a_first_by_fours)
  a_first_by_ones : Addr
  d_first_by_ones : FuncData
  F_first_by_ones : Fun K "first_by_ones" "first_by_ones" s_first_by_ones a_first_by_ones d_first_by_ones
  b_first_by_ones : Binds K d_first_by_ones ["part", "number"] []
  g_first_by_ones : mg "first_by_ones" = some (.ref a_first_by_ones)
  a_first_of : Addr
  d_first_of : FuncData
  F_first_of : Fun K "first_of" "first_of" s_first_of a_first_of d_first_of
  b_first_of : Binds K d_first_of ["last", "number"] []
  g_first_of : mg "first_of" = some (.ref a_first_of)
  a_both : Addr
  d_both : FuncData
  F_both : Fun K "both" "both" s_both a_both d_both
  b_both : Binds K d_both ["last", "number"] []
  g_both : mg "both" = some (.ref a_both)
  a_places_of : Addr
  d_places_of : FuncData
  F_places_of : Fun K "places_of" "places_of" s_places_of a_places_of d_places_of
  b_places_of : Binds K d_places_of ["last", "number"] []
  g_places_of : mg "places_of" = some (.ref a_places_of)
  a_at_place : Addr
  d_at_place : FuncData
  F_at_place : Fun K "at_place" "at_place" s_at_place a_at_place d_at_place
  b_at_place : Binds K d_at_place ["last", "place"] []
  g_at_place : mg "at_place" = some (.ref a_at_place)
  a_number_at : Addr
  d_number_at : FuncData
  F_number_at : Fun K "number_at" "number_at" s_number_at a_number_at d_number_at
  b_number_at : Binds K d_number_at ["last", "place"] []
  g_number_at : mg "number_at" = some (.ref a_number_at)
  a_row : Addr
  d_row : FuncData
  F_row : Fun K "row" "row" s_row a_row d_row
  b_row : Binds K d_row ["last"] []
  g_row : mg "row" = some (.ref a_row)
  a_asked_list : Addr
  d_asked_list : FuncData
  F_asked_list : Fun K "asked_list" "asked_list" s_asked_list a_asked_list d_asked_list
  b_asked_list : Binds K d_asked_list ["row"] []
  g_asked_list : mg "asked_list" = some (.ref a_asked_list)
  a_told : Addr
  d_told : FuncData
  F_told : Fun K "told" "told" s_told a_told d_told
  b_told : Binds K d_told ["row"] []
  g_told : mg "told" = some (.ref a_told)
  a_mirrored : Addr
  d_mirrored : FuncData
  F_mirrored : Fun K "mirrored" "mirrored" s_mirrored a_mirrored d_mirrored
  b_mirrored : Binds K d_mirrored ["row"] []
  g_mirrored : mg "mirrored" = some (.ref a_mirrored)
  a_three_by : Addr
  d_three_by : FuncData
  F_three_by : Fun K "three_by" "three_by" s_three_by a_three_by d_three_by
  b_three_by : Binds K d_three_by ["last", "number"] []
  g_three_by : mg "three_by" = some (.ref a_three_by)
  a_three_of : Addr
  d_three_of : FuncData
  F_three_of : Fun K "three_of" "three_of" s_three_of a_three_of d_three_of
  b_three_of : Binds K d_three_of ["last", "number"] []
  g_three_of : mg "three_of" = some (.ref a_three_of)
  a__law_refused : Addr
  d__law_refused : FuncData
  F__law_refused : Fun K "_law_refused" "_law_refused" s__law_refused a__law_refused d__law_refused
  b__law_refused : Binds K d__law_refused ["_law_ask", "_law_thing", "_law_due"] []
  g__law_refused : mg "_law_refused" = some (.ref a__law_refused)
  a__law_plain : Addr
  d__law_plain : FuncData
  F__law_plain : Fun K "_law_plain" "_law_plain" s__law_plain a__law_plain d__law_plain
  b__law_plain : Binds K d__law_plain ["_law_thing"] []
  g__law_plain : mg "_law_plain" = some (.ref a__law_plain)
  a__law_truths : Addr
  d__law_truths : FuncData
  F__law_truths : Fun K "_law_truths" "_law_truths" s__law_truths a__law_truths d__law_truths
  b__law_truths : Binds K d__law_truths ["_law_things"] []
  g__law_truths : mg "_law_truths" = some (.ref a__law_truths)
  a__law_long_right : Addr
  d__law_long_right : FuncData
  F__law_long_right : Fun K "_law_long_right" "_law_long_right" s__law_long_right a__law_long_right d__law_long_right
  b__law_long_right : Binds K d__law_long_right ["_law_whole"] []
  g__law_long_right : mg "_law_long_right" = some (.ref a__law_long_right)
  a__law_known_right : Addr
  d__law_known_right : FuncData
  F__law_known_right : Fun K "_law_known_right" "_law_known_right" s__law_known_right a__law_known_right d__law_known_right
  b__law_known_right : Binds K d__law_known_right ["_law_rest"] []
  g__law_known_right : mg "_law_known_right" = some (.ref a__law_known_right)
  q__law_known_right : Addr
  p__law_known_right : Addr
  C__law_known_right : FunC K "_law_known_right" "_law_known_right" s__law_known_right a__law_known_right d__law_known_right q__law_known_right
  a__law_first_right : Addr
  d__law_first_right : FuncData
  F__law_first_right : Fun K "_law_first_right" "_law_first_right" s__law_first_right a__law_first_right d__law_first_right
  b__law_first_right : Binds K d__law_first_right ["_law_whole"] []
  g__law_first_right : mg "_law_first_right" = some (.ref a__law_first_right)
  q__law_first_right : Addr
  p__law_first_right : Addr
  C__law_first_right : FunC K "_law_first_right" "_law_first_right" s__law_first_right a__law_first_right d__law_first_right q__law_first_right
  a__law_threes_promises : Addr
  d__law_threes_promises : FuncData
  F__law_threes_promises : Fun K "_law_threes_promises" "_law_threes_promises" s__law_threes_promises a__law_threes_promises d__law_threes_promises
  b__law_threes_promises : Binds K d__law_threes_promises ["_law_last"] []
  g__law_threes_promises : mg "_law_threes_promises" = some (.ref a__law_threes_promises)
  a__law_promises_right : Addr
  d__law_promises_right : FuncData
  F__law_promises_right : Fun K "_law_promises_right" "_law_promises_right" s__law_promises_right a__law_promises_right d__law_promises_right
  b__law_promises_right : Binds K d__law_promises_right [] []
  g__law_promises_right : mg "_law_promises_right" = some (.ref a__law_promises_right)
  a__law_judged_promises : Addr
  d__law_judged_promises : FuncData
  F__law_judged_promises : Fun K "_law_judged_promises" "_law_judged_promises" s__law_judged_promises a__law_judged_promises d__law_judged_promises
  b__law_judged_promises : Binds K d__law_judged_promises [] []
  g__law_judged_promises : mg "_law_judged_promises" = some (.ref a__law_judged_promises)
  a_law : Addr
  d_law : FuncData
  F_law : Fun K "law" "law" s_law a_law d_law
  b_law : Binds K d_law ["_law_script"] []
  g_law : mg "law" = some (.ref a_law)
  pne0 : p__law_known_right ≠ p__law_first_right
  c_Answer : Addr
  g_Answer : mg "Answer" = some (.ref c_Answer)
  c_Can : Addr
  g_Can : mg "Can" = some (.ref c_Can)
  n_Can : New0 K c_Can
  i_Can : InsT K c_Can
  s_Can : Meth K c_Can "shows" a_Can_shows
  c_Barred : Addr
  g_Barred : mg "Barred" = some (.ref c_Barred)
  n_Barred : New0 K c_Barred
  i_Barred : InsT K c_Barred
  s_Barred : Meth K c_Barred "shows" a_Barred_shows
  c_Good : Addr
  g_Good : mg "Good" = some (.ref c_Good)
  n_Good : New0 K c_Good
  i_Good : InsT K c_Good
  s_Good : Meth K c_Good "shows" a_Good_shows
  c_Off : Addr
  g_Off : mg "Off" = some (.ref c_Off)
  n_Off : Mk K c_Off a_Off___init__
  na_Off_number : NoAttr K c_Off "number"
  i_Off : InsT K c_Off
  s_Off : Meth K c_Off "shows" a_Off_shows
  c_PairError : Addr
  g_PairError : mg "PairError" = some (.ref c_PairError)
  x_PairError : ExcT K c_PairError
  c_BadLast : Addr
  g_BadLast : mg "BadLast" = some (.ref c_BadLast)
  x_BadLast : ExcT K c_BadLast
  y_BadLast : ExcC K c_BadLast
  em_BadLast : PySem.W.exmOne K (.ref c_BadLast) (.ref c_PairError) = some true
  kv_BadLast : PySem.W.kitOne K (.ref c_BadLast) (.type "ValueError") = some true
  c_BadNumber : Addr
  g_BadNumber : mg "BadNumber" = some (.ref c_BadNumber)
  x_BadNumber : ExcT K c_BadNumber
  y_BadNumber : ExcC K c_BadNumber
  em_BadNumber : PySem.W.exmOne K (.ref c_BadNumber) (.ref c_PairError) = some true
  kv_BadNumber : PySem.W.kitOne K (.ref c_BadNumber) (.type "ValueError") = some true
  c_BadPlace : Addr
  g_BadPlace : mg "BadPlace" = some (.ref c_BadPlace)
  x_BadPlace : ExcT K c_BadPlace
  y_BadPlace : ExcC K c_BadPlace
  em_BadPlace : PySem.W.exmOne K (.ref c_BadPlace) (.ref c_PairError) = some true
  kv_BadPlace : PySem.W.kitOne K (.ref c_BadPlace) (.type "ValueError") = some true
  c_BadRow : Addr
  g_BadRow : mg "BadRow" = some (.ref c_BadRow)
  x_BadRow : ExcT K c_BadRow
  y_BadRow : ExcC K c_BadRow
  em_BadRow : PySem.W.exmOne K (.ref c_BadRow) (.ref c_PairError) = some true
  kv_BadRow : PySem.W.kitOne K (.ref c_BadRow) (.type "ValueError") = some true
  c_NoRow : Addr
  g_NoRow : mg "NoRow" = some (.ref c_NoRow)
  x_NoRow : ExcT K c_NoRow
  y_NoRow : ExcC K c_NoRow
  em_NoRow : PySem.W.exmOne K (.ref c_NoRow) (.ref c_PairError) = some true
  kv_NoRow : PySem.W.kitOne K (.ref c_NoRow) (.type "ValueError") = some true
  t_GREATEST : Tok
  c_GREATEST : mg "GREATEST" = some (.int 100 t_GREATEST)
  c_FIRSTS : Addr
  g_FIRSTS : mg "FIRSTS" = some (.ref c_FIRSTS)
  k_FIRSTS : Firsts K c_FIRSTS
  t_MOST : Tok
  c_MOST : mg "MOST" = some (.int 400 t_MOST)
  m_ValueError : mg "ValueError" = none
  m_abs : mg "abs" = none
  m_all : mg "all" = none
  m_any : mg "any" = none
  m_bool : mg "bool" = none
  m_int : mg "int" = none
  m_isinstance : mg "isinstance" = none
  m_len : mg "len" = none
  m_list : mg "list" = none
  m_range : mg "range" = none
  m_set : mg "set" = none
  m_sorted : mg "sorted" = none
  m_str : mg "str" = none
  m_sum : mg "sum" = none
  m_tuple : mg "tuple" = none
  m_zip : mg "zip" = none
  ke_BadLast_BadLast : PySem.W.kitOne K (.ref c_BadLast) (.ref c_BadLast) = some true
  ke_BadLast_BadNumber : PySem.W.kitOne K (.ref c_BadLast) (.ref c_BadNumber) = some false
  ke_BadLast_BadPlace : PySem.W.kitOne K (.ref c_BadLast) (.ref c_BadPlace) = some false
  ke_BadLast_BadRow : PySem.W.kitOne K (.ref c_BadLast) (.ref c_BadRow) = some false
  ke_BadLast_NoRow : PySem.W.kitOne K (.ref c_BadLast) (.ref c_NoRow) = some false
  ke_BadNumber_BadLast : PySem.W.kitOne K (.ref c_BadNumber) (.ref c_BadLast) = some false
  ke_BadNumber_BadNumber : PySem.W.kitOne K (.ref c_BadNumber) (.ref c_BadNumber) = some true
  ke_BadNumber_BadPlace : PySem.W.kitOne K (.ref c_BadNumber) (.ref c_BadPlace) = some false
  ke_BadNumber_BadRow : PySem.W.kitOne K (.ref c_BadNumber) (.ref c_BadRow) = some false
  ke_BadNumber_NoRow : PySem.W.kitOne K (.ref c_BadNumber) (.ref c_NoRow) = some false
  ke_BadPlace_BadLast : PySem.W.kitOne K (.ref c_BadPlace) (.ref c_BadLast) = some false
  ke_BadPlace_BadNumber : PySem.W.kitOne K (.ref c_BadPlace) (.ref c_BadNumber) = some false
  ke_BadPlace_BadPlace : PySem.W.kitOne K (.ref c_BadPlace) (.ref c_BadPlace) = some true
  ke_BadPlace_BadRow : PySem.W.kitOne K (.ref c_BadPlace) (.ref c_BadRow) = some false
  ke_BadPlace_NoRow : PySem.W.kitOne K (.ref c_BadPlace) (.ref c_NoRow) = some false
  ke_BadRow_BadLast : PySem.W.kitOne K (.ref c_BadRow) (.ref c_BadLast) = some false
  ke_BadRow_BadNumber : PySem.W.kitOne K (.ref c_BadRow) (.ref c_BadNumber) = some false
  ke_BadRow_BadPlace : PySem.W.kitOne K (.ref c_BadRow) (.ref c_BadPlace) = some false
  ke_BadRow_BadRow : PySem.W.kitOne K (.ref c_BadRow) (.ref c_BadRow) = some true
  ke_BadRow_NoRow : PySem.W.kitOne K (.ref c_BadRow) (.ref c_NoRow) = some false
  ke_NoRow_BadLast : PySem.W.kitOne K (.ref c_NoRow) (.ref c_BadLast) = some false
  ke_NoRow_BadNumber : PySem.W.kitOne K (.ref c_NoRow) (.ref c_BadNumber) = some false
  ke_NoRow_BadPlace : PySem.W.kitOne K (.ref c_NoRow) (.ref c_BadPlace) = some false
  ke_NoRow_BadRow : PySem.W.kitOne K (.ref c_NoRow) (.ref c_BadRow) = some false
  ke_NoRow_NoRow : PySem.W.kitOne K (.ref c_NoRow) (.ref c_NoRow) = some true
  kit_Can_Answer : PySem.W.kitOne K (.ref c_Can) (.ref c_Answer) = some true
  kit_Can_Can : PySem.W.kitOne K (.ref c_Can) (.ref c_Can) = some true
  kit_Can_Barred : PySem.W.kitOne K (.ref c_Can) (.ref c_Barred) = some false
  kit_Can_Good : PySem.W.kitOne K (.ref c_Can) (.ref c_Good) = some false
  kit_Can_Off : PySem.W.kitOne K (.ref c_Can) (.ref c_Off) = some false
  kit_Barred_Answer : PySem.W.kitOne K (.ref c_Barred) (.ref c_Answer) = some true
  kit_Barred_Can : PySem.W.kitOne K (.ref c_Barred) (.ref c_Can) = some false
  kit_Barred_Barred : PySem.W.kitOne K (.ref c_Barred) (.ref c_Barred) = some true
  kit_Barred_Good : PySem.W.kitOne K (.ref c_Barred) (.ref c_Good) = some false
  kit_Barred_Off : PySem.W.kitOne K (.ref c_Barred) (.ref c_Off) = some false
  kit_Good_Answer : PySem.W.kitOne K (.ref c_Good) (.ref c_Answer) = some true
  kit_Good_Can : PySem.W.kitOne K (.ref c_Good) (.ref c_Can) = some false
  kit_Good_Barred : PySem.W.kitOne K (.ref c_Good) (.ref c_Barred) = some false
  kit_Good_Good : PySem.W.kitOne K (.ref c_Good) (.ref c_Good) = some true
  kit_Good_Off : PySem.W.kitOne K (.ref c_Good) (.ref c_Off) = some false
  kit_Off_Answer : PySem.W.kitOne K (.ref c_Off) (.ref c_Answer) = some true
  kit_Off_Can : PySem.W.kitOne K (.ref c_Off) (.ref c_Can) = some false
  kit_Off_Barred : PySem.W.kitOne K (.ref c_Off) (.ref c_Barred) = some false
  kit_Off_Good : PySem.W.kitOne K (.ref c_Off) (.ref c_Good) = some false
  kit_Off_Off : PySem.W.kitOne K (.ref c_Off) (.ref c_Off) = some true
end PA

set_option Elab.async false
set_option linter.all false
set_option maxRecDepth 100000
set_option maxHeartbeats 4000000
namespace PA
open PySem PySem.Spec PyProof.Rows L2 Evl
/-- the walk through an expression -/
local macro_rules | `(tactic| walk_at "ev") => `(tactic| repeat' (first | (with_reducible exact ev_c) | (with_reducible refine' ev_var ?_) | (show _ = some (some _); rfl) | (with_reducible exact ea_nil) | (with_reducible refine' ea_cons ?_ ?_) | (with_reducible refine' ev_abs ?_) | (with_reducible refine' ev_op ?_ ?_ ?_) | (with_reducible exact rv_I0) | (exact rv_mulL (by decide)) | (exact rv_mulR (by decide)) | (exact rv_div (by decide)) | (exact rv_mod (by decide)) | (exact rv_pow (by decide)) | (with_reducible refine' ev_un ?_ ?_) | (with_reducible exact ru_neg) | (exact rv_eq rfl) | (exact rv_ne rfl) | (with_reducible refine' et_test ?_) | (with_reducible refine' et_B ?_) | (exact ev_c) | (exact rv_I0) | (exact ru_neg) | (exact ea_nil) | (refine' ea_cons ?_ ?_)))
section
variable {P : Program} {w : World} {K : PySem.W.Frag} {mg : Str → Option Value} {base : Heap}
/-! ### is_number -/
def sp_is_number (K : PySem.W.Frag) : Sp := fun vs H Q _ => ∃ v b, vs = [v] ∧ Num K H v b ∧ RetV (.bl b) H Q
theorem kit_num {K : PySem.W.Frag} {T : String} {b : Bool} (h : isNumT T = some b) : ∃ b1, PySem.W.kitOne K (.type T) (.type "int") = some b1 ∧ (b1 = false → b = false) ∧ (b1 = true → PySem.W.kitOne K (.type T) (.type "bool") = some (!b)) := by
  unfold isNumT at h
  split at h
  · rename_i e
    refine ⟨true, kit_ty e, (fun z => nomatch z), fun _ => kit_ty ?_⟩
    cases q : kitB T "bool" with
    | none => rw [q] at h; cases h
    | some c =>
      rw [q] at h
      have h2 : (!c) = b := Option.some.inj h
      rw [← h2, Bool.not_not]
  · rename_i e
    exact ⟨false, kit_ty e, fun _ => (Option.some.inj h).symm, fun z => nomatch z⟩
  · cases h
theorem ok_is_number (T : Tx K mg) : FnOk P w K mg base CX0 1 T.a_is_number T.d_is_number ["thing"] (sp_is_number K) := by
  refine T.F_is_number.ok sc_is_number (fun vs H Q E h => ?_) (fun cdv A outer s H vs Q E hr h => ?_)
  · obtain ⟨v, b, rfl, _⟩ := h
    rfl
  · obtain ⟨v, b, rfl, ⟨ty, ht, hn⟩, k⟩ := h
    refine ⟨_, (pss_one (ps_ret (pe_and (pe_callB (r := rIsi K) call_isi (by rfl) T.m_isinstance bt_isinstance (pa_cons (pv 0) (pa_cons (pe_bltn (v := .ty "int") (by rfl) T.m_int bt_int rfl) pa_nil))) (pe_one (pe_not (pe_callB (r := rIsi K) call_isi (by rfl) T.m_isinstance bt_isinstance (pa_cons (pv 0) (pa_cons (pe_bltn (v := .ty "bool") (by rfl) T.m_bool bt_bool rfl) pa_nil)))))))), ?_⟩
    obtain ⟨b1, h1, h2, h3⟩ := kit_num (K := K) hn
    have e : (b1 && !(!b)) = b := by
      cases b1 with
      | true => simp
      | false => rw [h2 rfl]; rfl
    refine s_ret (v := .bl b) (ev_is (v := .bl (b1 && !(!b))) (ev_andV (ev_isi (ea_cons (ev_var rfl) (ea_cons ev_c ea_nil)) (.ty "int") ht h1) fun z => ev_notV (ev_isi (ea_cons (ev_var rfl) (ea_cons ev_c ea_nil)) (.ty "bool") ht (h3 z))) (by rw [e])) k
theorem v_is_number {v : V} {b : Bool} {H : Hp} (h : Num K H v b) : SpV (sp_is_number K) [v] H (.bl b) := fun _ e _ q _ => ⟨v, b, rfl, h.ex e, q⟩
/-! ### asked_last -/
/-- no whole number, or one of which B holds -/
def BadV (K : PySem.W.Frag) (H : Hp) (v : V) (B : Int → Prop) : Prop := Num K H v false ∨ ∃ n, v = .int n ∧ B n
theorem BadV.ex {H H' : Hp} {v : V} {B : Int → Prop} (e : Ex H H') (h : BadV K H v B) : BadV K H' v B := by
  rcases h with h | h
  · exact .inl (h.ex e)
  · exact .inr h
/-- an error of the class at C leaves -/
def Err (C : Addr) (H : Hp) (E : XK) : Prop := ∀ H', Ex H H' → E (.ref C) none H'
theorem Err.ex {C : Addr} {H H' : Hp} {E : XK} (e : Ex H H') (h : Err C H E) : Err C H' E := fun H2 e2 => h H2 (e.trans e2)
def sp_asked_last (T : Tx K mg) : Sp := fun vs H Q E => ∃ v, vs = [v] ∧ ((∃ n, v = .int n ∧ 1 ≤ n ∧ RetV .non H Q) ∨ (BadV K H v (· < 1) ∧ Err T.c_BadLast H E))
theorem ok_asked_last (T : Tx K mg) : FnOk P w K mg base (L2N.CX P w) 2 T.a_asked_last T.d_asked_last ["last"] (sp_asked_last T) := by
  refine okXN T.F_asked_last sc_asked_last (fun vs H Q E h => ?_) (fun cdv A outer s H vs Q E hr h => ?_)
  · obtain ⟨v, rfl, _⟩ := h
    rfl
  · obtain ⟨v, rfl, h⟩ := h
    refine ⟨_, (pss_one (ps_if (PW.pt (pw_or (pt_not (pt_val (pe_call (ok_is_number T) (hr.mono (by decide)) (by rfl) T.g_is_number T.F_is_number.kp T.b_is_number .nil pass0 (pa_cons (pv 0) pa_nil)))) (pw_or1 (pt_cmpR op_lt (pv 0) pe_int (nomark _))))) (pss_one (L2N.ps_raise rfl (L2N.takes_of rfl rfl rfl rfl) (L2N.pmk_own PySem.F.excBase_ValueError T.x_BadLast.ex T.g_BadLast T.x_BadLast.kp (raises_own T.x_BadLast.sb T.x_BadLast.ty) (by rfl)))) pss_nil)), ?_⟩
    rcases h with ⟨n, rfl, hn, k⟩ | ⟨hb, k⟩
    · refine s_when (b := false) (et_is (et_or (et_not (et_B (ev_call (ea_cons (ev_var rfl) ea_nil) (v_is_number (Num.int n))))) fun _ => et_test (ev_op (ev_var rfl) ev_c rv_I0)) ?_) (fun z => nomatch z) fun _ H1 e1 => k H1 e1
      simp only [Bool.not_true, Bool.false_or, decide_eq_false_iff_not]
      omega
    · rcases hb with hb | ⟨n, rfl, hn⟩
      · exact s_when (b := true) (et_is (a := !false || true) (et_or (et_not (et_B (ev_call (ea_cons (ev_var rfl) ea_nil) (v_is_number hb)))) fun z => nomatch z) rfl) (fun _ H1 e1 => k H1 e1) (fun z => nomatch z)
      · refine s_when (b := true) (et_is (et_or (et_not (et_B (ev_call (ea_cons (ev_var rfl) ea_nil) (v_is_number (Num.int n))))) fun _ => et_test (ev_op (ev_var rfl) ev_c rv_I0)) ?_) (fun _ H1 e1 => k H1 e1) (fun z => nomatch z)
        simp only [Bool.not_true, Bool.false_or, decide_eq_true_eq]
        exact hn
theorem v_asked_last {T : Tx K mg} {n : Int} {H : Hp} (h : 1 ≤ n) : SpV (sp_asked_last T) [.int n] H .non := fun _ _ _ q _ => ⟨_, rfl, .inl ⟨n, rfl, h, q⟩⟩
/-! ### asked_row -/
/-- what is wrong with a last number -/
def LastX (T : Tx K mg) (v : V) (H : Hp) (E : XK) : Prop := (BadV K H v (· < 1) ∧ Err T.c_BadLast H E) ∨ ∃ n, v = .int n ∧ 1 ≤ n ∧ 1 < n % 4 ∧ Err T.c_NoRow H E
theorem LastX.ex {T : Tx K mg} {v : V} {H H' : Hp} {E : XK} (e : Ex H H') (h : LastX T v H E) : LastX T v H' E := by
  rcases h with ⟨a, b⟩ | ⟨n, a, b, c, d⟩
  · exact .inl ⟨a.ex e, b.ex e⟩
  · exact .inr ⟨n, a, b, c, d.ex e⟩
def sp_asked_row (T : Tx K mg) : Sp := fun vs H Q E => ∃ v, vs = [v] ∧ ((∃ n, v = .int n ∧ Can n ∧ RetV .non H Q) ∨ LastX T v H E)
theorem ok_asked_row (T : Tx K mg) : FnOk P w K mg base (L2N.CX P w) 3 T.a_asked_row T.d_asked_row ["last"] (sp_asked_row T) := by
  refine okXN T.F_asked_row sc_asked_row (fun vs H Q E h => ?_) (fun cdv A outer s H vs Q E hr h => ?_)
  · obtain ⟨v, rfl, _⟩ := h
    rfl
  · obtain ⟨v, rfl, h⟩ := h
    refine ⟨_, (pss_cons (ps_expr (pe_call (ok_asked_last T) (hr.mono (by decide)) (by rfl) T.g_asked_last T.F_asked_last.kp T.b_asked_last .nil (L2N.passes_call (L2N.takes_of rfl rfl rfl rfl) (fun _ _ _ _ h => h)) (pa_cons (pv 0) pa_nil)))
      (pss_one (ps_if (pt_cmpR op_gt (pe_op op_mod (pv 0) pe_int) pe_int (nomark _)) (pss_one (L2N.ps_raise rfl (L2N.takes_of rfl rfl rfl rfl) (L2N.pmk_own PySem.F.excBase_ValueError T.x_NoRow.ex T.g_NoRow T.x_NoRow.kp (raises_own T.x_NoRow.sb T.x_NoRow.ty) (by rfl)))) pss_nil))), ?_⟩
    rcases h with ⟨n, rfl, hn, k⟩ | ⟨hb, k⟩ | ⟨n, rfl, h1, h4, k⟩
    · refine q_drop (ev_call (ea_cons (ev_var rfl) ea_nil) (v_asked_last (T := T) hn.1)) fun H1 e1 => ?_
      refine s_when (b := false) (et_is (b := false) (by walk_at "ev") ?_) (fun z => nomatch z) fun _ H2 e2 => k H2 (e1.trans e2)
      have := hn.2
      simp only [decide_eq_false_iff_not]
      omega
    · exact ⟨_, rfl, _, rfl, .inr ⟨hb, k⟩⟩
    · refine q_drop (ev_call (ea_cons (ev_var rfl) ea_nil) (v_asked_last (T := T) h1)) fun H1 e1 => ?_
      refine s_when (b := true) (et_is (b := true) (by walk_at "ev") ?_) (fun _ H2 e2 => k H2 (e1.trans e2)) (fun z => nomatch z)
      simp only [decide_eq_true_eq]
      exact h4
/-! ### first_by_fours, first_by_ones -/
def sp_first_by_fours : Sp := fun vs H Q _ => ∃ p n : Int, vs = [.int p, .int n] ∧ 2 ≤ p ∧ RetV (.int (f4 p n)) H Q
def tab4 (p : Int) : List (Key × V) := mergeK [] [(Sum.inl (4 * p - 1), .int (2 * p + 1)), (Sum.inl 1, .int p), (Sum.inl (2 * p + 1), .int (p - 1)), (Sum.inl (2 * p - 1), .int (2 * p))]
def tab1 (p : Int) : List (Key × V) := mergeK [] [(Sum.inl (4 * p + 1), .int (2 * p + 1)), (Sum.inl 1, .int (p + 1)), (Sum.inl (2 * p - 1), .int (2 * p + 2))]
theorem key_ne {a b : Int} (h : a ≠ b) : ¬ (Sum.inl a : Key) = Sum.inl b := fun z => h (Sum.inl.inj z)
theorem tab4_val (p n : Int) (hp : 2 ≤ p) (ho : n % 2 ≠ 0) : (valV (tab4 p) (Sum.inl n) = some (.int (f4 p n))) ∨ (valV (tab4 p) (Sum.inl n) = none ∧ f4 p n = if 2 * p + 1 < n then (4 * p - 1 - n) / 2 else p + 1 + (2 * p - 1 - n) / 2) := by
  have e : valV (tab4 p) (Sum.inl n) = if (Sum.inl n : Key) = Sum.inl (2 * p - 1) then some (.int (2 * p)) else if (Sum.inl n : Key) = Sum.inl (2 * p + 1) then some (.int (p - 1)) else if (Sum.inl n : Key) = Sum.inl 1 then some (.int p) else if (Sum.inl n : Key) = Sum.inl (4 * p - 1) then some (.int (2 * p + 1)) else none := by
    show valV (putK (putK (putK (putK [] _ _) _ _) _ _) _ _) _ = _
    rw [valV_put, valV_put, valV_put, valV_put]
    rfl
  rw [e]
  unfold f4
  rw [if_neg ho]
  by_cases b : n = 4 * p - 1
  · rw [if_pos b, if_neg (key_ne (by omega)), if_neg (key_ne (by omega)), if_neg (key_ne (by omega)), if_pos (by rw [b])]
    exact .inl rfl
  rw [if_neg b]
  by_cases c : n = 1
  · rw [if_pos c, if_neg (key_ne (by omega)), if_neg (key_ne (by omega)), if_pos (by rw [c])]
    exact .inl rfl
  rw [if_neg c]
  by_cases d : n = 2 * p + 1
  · rw [if_pos d, if_neg (key_ne (by omega)), if_pos (by rw [d])]
    exact .inl rfl
  rw [if_neg d]
  by_cases f : n = 2 * p - 1
  · rw [if_pos f, if_pos (by rw [f])]
    exact .inl rfl
  rw [if_neg f, if_neg (key_ne f), if_neg (key_ne d), if_neg (key_ne c), if_neg (key_ne b)]
  exact .inr ⟨rfl, rfl⟩
theorem tab1_val (p n : Int) (hp : 2 ≤ p) (ho : n % 2 ≠ 0) : (valV (tab1 p) (Sum.inl n) = some (.int (f1 p n))) ∨ (valV (tab1 p) (Sum.inl n) = none ∧ f1 p n = if 2 * p < n then (4 * p + 1 - n) / 2 else p + 2 + (2 * p - 1 - n) / 2) := by
  have e : valV (tab1 p) (Sum.inl n) = if (Sum.inl n : Key) = Sum.inl (2 * p - 1) then some (.int (2 * p + 2)) else if (Sum.inl n : Key) = Sum.inl 1 then some (.int (p + 1)) else if (Sum.inl n : Key) = Sum.inl (4 * p + 1) then some (.int (2 * p + 1)) else none := by
    show valV (putK (putK (putK [] _ _) _ _) _ _) _ = _
    rw [valV_put, valV_put, valV_put]
    rfl
  rw [e]
  unfold f1
  rw [if_neg ho]
  by_cases b : n = 4 * p + 1
  · rw [if_pos b, if_neg (key_ne (by omega)), if_neg (key_ne (by omega)), if_pos (by rw [b])]
    exact .inl rfl
  rw [if_neg b]
  by_cases c : n = 1
  · rw [if_pos c, if_neg (key_ne (by omega)), if_pos (by rw [c])]
    exact .inl rfl
  rw [if_neg c]
  by_cases f : n = 2 * p - 1
  · rw [if_pos f, if_pos (by rw [f])]
    exact .inl rfl
  rw [if_neg f, if_neg (key_ne f), if_neg (key_ne c), if_neg (key_ne b)]
  exact .inr ⟨rfl, rfl⟩
theorem ok_first_by_fours (T : Tx K mg) : FnOk P w K mg base CX0 1 T.a_first_by_fours T.d_first_by_fours ["part", "number"] sp_first_by_fours := by
  refine T.F_first_by_fours.ok sc_first_by_fours (fun vs H Q E h => ?_) (fun cdv A outer s H vs Q E hr h => ?_)
  · obtain ⟨p, n, rfl, _⟩ := h
    rfl
  · obtain ⟨p, n, rfl, hp, k⟩ := h
    have hu := hu_of hr
    refine ⟨_, (pss_cons (ps_if (pt_cmpR op_eq (pe_op op_mod (pv 1) pe_int) pe_int (nomark _)) (pss_one (ps_ret (pe_op op_sub (pe_op op_mul pe_int (pv 0)) (pe_op op_fdiv (pv 1) pe_int)))) pss_nil)
      (pss_cons (ps_set (i := 2) sc_first_by_fours.nd rfl (.inl rfl) (pe_disp (pps_cons (pe_op op_sub (pe_op op_mul pe_int (pv 0)) pe_int) (pe_op op_add (pe_op op_mul pe_int (pv 0)) pe_int) (pps_cons pe_int (pv 0) (pps_cons (pe_op op_add (pe_op op_mul pe_int (pv 0)) pe_int) (pe_op op_sub (pv 0) pe_int) (pps_cons (pe_op op_sub (pe_op op_mul pe_int (pv 0)) pe_int) (pe_op op_mul pe_int (pv 0)) pps_nil)))) (by rfl) (by rfl) (fun z => by cases z) (by decide)))
      (pss_cons (ps_if (pt_cmp (pc_din hu (pv 1) (pv 2))) (pss_one (ps_ret (pe_dget hu (pv 2) (pv 1) (fun _ _ => rfl)))) pss_nil)
      (pss_cons (ps_if (pt_cmpR op_gt (pv 1) (pe_op op_add (pe_op op_mul pe_int (pv 0)) pe_int) (nomark _)) (pss_one (ps_ret (pe_op op_fdiv (pe_op op_sub (pe_op op_sub (pe_op op_mul pe_int (pv 0)) pe_int) (pv 1)) pe_int))) pss_nil)
      (pss_one (ps_ret (pe_op op_add (pe_op op_add (pv 0) pe_int) (pe_op op_fdiv (pe_op op_sub (pe_op op_sub (pe_op op_mul pe_int (pv 0)) pe_int) (pv 1)) pe_int)))))))), ?_⟩
    refine q_when (by walk_at "ev") (fun z H1 e1 => ?_) fun z H1 e1 => ?_
    · have z0 : n % 2 = 0 := V.int.inj (of_decide_eq_true z)
      have e : f4 p n = 6 * p - n / 2 := if_pos z0
      rw [e] at k
      exact s_ret (by walk_at "ev") fun H2 e2 => k H2 (e1.trans e2)
    · have ho : n % 2 ≠ 0 := fun y => (of_decide_eq_false z) (by rw [y])
      refine q_asgD (kvs := [(Sum.inl (4 * p - 1), .int (2 * p + 1)), (Sum.inl 1, .int p), (Sum.inl (2 * p + 1), .int (p - 1)), (Sum.inl (2 * p - 1), .int (2 * p))]) (ep_cons (by walk_at "ev") (by walk_at "ev") (ep_cons (by walk_at "ev") (by walk_at "ev") (ep_cons (by walk_at "ev") (by walk_at "ev") (ep_cons (by walk_at "ev") (by walk_at "ev") ep_nil)))) (show 4 ≤ 15 by decide) fun d H2 hd e2 h2 => ?_
      have h2 : H2 d = some (.dK (tab4 p)) := h2
      rcases tab4_val p n hp ho with hv | ⟨hv, ef⟩
      · refine q_when (b := true) (et_is (et_din h2 (ev_var rfl) (ev_var rfl)) (by rw [hv] <;> rfl)) (fun _ H3 e3 => s_ret (ev_dget (e3 _ _ h2) (ev_var rfl) (ev_var rfl) hv) fun H4 e4 => k H4 (((e1.trans e2).trans e3).trans e4)) (fun z => nomatch z)
      · refine q_when (b := false) (et_is (et_din h2 (ev_var rfl) (ev_var rfl)) (by rw [hv] <;> rfl)) (fun z => nomatch z) fun _ H3 e3 => ?_
        rw [ef] at k
        refine q_when (by walk_at "ev") (fun z H4 e4 => ?_) fun z H4 e4 => ?_
        · rw [if_pos (of_decide_eq_true z)] at k
          exact s_ret (by walk_at "ev") fun H5 e5 => k H5 ((((e1.trans e2).trans e3).trans e4).trans e5)
        · rw [if_neg (of_decide_eq_false z)] at k
          exact s_ret (by walk_at "ev") fun H5 e5 => k H5 ((((e1.trans e2).trans e3).trans e4).trans e5)
theorem v_first_by_fours {p n : Int} {H : Hp} (h : 2 ≤ p) : SpV sp_first_by_fours [.int p, .int n] H (.int (f4 p n)) := fun _ _ _ q _ => ⟨p, n, rfl, h, q⟩
def sp_first_by_ones : Sp := fun vs H Q _ => ∃ p n : Int, vs = [.int p, .int n] ∧ 2 ≤ p ∧ RetV (.int (f1 p n)) H Q
theorem ok_first_by_ones (T : Tx K mg) : FnOk P w K mg base CX0 1 T.a_first_by_ones T.d_first_by_ones ["part", "number"] sp_first_by_ones := by
  refine T.F_first_by_ones.ok sc_first_by_ones (fun vs H Q E h => ?_) (fun cdv A outer s H vs Q E hr h => ?_)
  · obtain ⟨p, n, rfl, _⟩ := h
    rfl
  · obtain ⟨p, n, rfl, hp, k⟩ := h
    have hu := hu_of hr
    refine ⟨_, (pss_cons (ps_if (pt_cmpR op_eq (pe_op op_mod (pv 1) pe_int) pe_int (nomark _)) (pss_one (ps_ret (pe_op op_sub (pe_op op_add (pe_op op_mul pe_int (pv 0)) pe_int) (pe_op op_fdiv (pv 1) pe_int)))) pss_nil)
      (pss_cons (ps_set (i := 2) sc_first_by_ones.nd rfl (.inl rfl) (pe_disp (pps_cons (pe_op op_add (pe_op op_mul pe_int (pv 0)) pe_int) (pe_op op_add (pe_op op_mul pe_int (pv 0)) pe_int) (pps_cons pe_int (pe_op op_add (pv 0) pe_int) (pps_cons (pe_op op_sub (pe_op op_mul pe_int (pv 0)) pe_int) (pe_op op_add (pe_op op_mul pe_int (pv 0)) pe_int) pps_nil))) (by rfl) (by rfl) (fun z => by cases z) (by decide)))
      (pss_cons (ps_if (pt_cmp (pc_din hu (pv 1) (pv 2))) (pss_one (ps_ret (pe_dget hu (pv 2) (pv 1) (fun _ _ => rfl)))) pss_nil)
      (pss_cons (ps_if (pt_cmpR op_gt (pv 1) (pe_op op_mul pe_int (pv 0)) (nomark _)) (pss_one (ps_ret (pe_op op_fdiv (pe_op op_sub (pe_op op_add (pe_op op_mul pe_int (pv 0)) pe_int) (pv 1)) pe_int))) pss_nil)
      (pss_one (ps_ret (pe_op op_add (pe_op op_add (pv 0) pe_int) (pe_op op_fdiv (pe_op op_sub (pe_op op_sub (pe_op op_mul pe_int (pv 0)) pe_int) (pv 1)) pe_int)))))))), ?_⟩
    refine q_when (by walk_at "ev") (fun z H1 e1 => ?_) fun z H1 e1 => ?_
    · have z0 : n % 2 = 0 := V.int.inj (of_decide_eq_true z)
      have e : f1 p n = 6 * p + 2 - n / 2 := if_pos z0
      rw [e] at k
      exact s_ret (by walk_at "ev") fun H2 e2 => k H2 (e1.trans e2)
    · have ho : n % 2 ≠ 0 := fun y => (of_decide_eq_false z) (by rw [y])
      refine q_asgD (kvs := [(Sum.inl (4 * p + 1), .int (2 * p + 1)), (Sum.inl 1, .int (p + 1)), (Sum.inl (2 * p - 1), .int (2 * p + 2))]) (ep_cons (by walk_at "ev") (by walk_at "ev") (ep_cons (by walk_at "ev") (by walk_at "ev") (ep_cons (by walk_at "ev") (by walk_at "ev") ep_nil))) (show 3 ≤ 15 by decide) fun d H2 hd e2 h2 => ?_
      have h2 : H2 d = some (.dK (tab1 p)) := h2
      rcases tab1_val p n hp ho with hv | ⟨hv, ef⟩
      · refine q_when (b := true) (et_is (et_din h2 (ev_var rfl) (ev_var rfl)) (by rw [hv] <;> rfl)) (fun _ H3 e3 => s_ret (ev_dget (e3 _ _ h2) (ev_var rfl) (ev_var rfl) hv) fun H4 e4 => k H4 (((e1.trans e2).trans e3).trans e4)) (fun z => nomatch z)
      · refine q_when (b := false) (et_is (et_din h2 (ev_var rfl) (ev_var rfl)) (by rw [hv] <;> rfl)) (fun z => nomatch z) fun _ H3 e3 => ?_
        rw [ef] at k
        refine q_when (by walk_at "ev") (fun z H4 e4 => ?_) fun z H4 e4 => ?_
        · rw [if_pos (of_decide_eq_true z)] at k
          exact s_ret (by walk_at "ev") fun H5 e5 => k H5 ((((e1.trans e2).trans e3).trans e4).trans e5)
        · rw [if_neg (of_decide_eq_false z)] at k
          exact s_ret (by walk_at "ev") fun H5 e5 => k H5 ((((e1.trans e2).trans e3).trans e4).trans e5)
theorem v_first_by_ones {p n : Int} {H : Hp} (h : 2 ≤ p) : SpV sp_first_by_ones [.int p, .int n] H (.int (f1 p n)) := fun _ _ _ q _ => ⟨p, n, rfl, h, q⟩
/-! ### first_of, both -/
def sp_first_of : Sp := fun vs H Q _ => ∃ l n : Int, vs = [.int l, .int n] ∧ Can l ∧ 1 ≤ n ∧ n ≤ l ∧ RetV (.int (fst l n)) H Q
theorem small_at {l n : Int} (hl : l = 1 ∨ l = 4 ∨ l = 5) (h1 : 1 ≤ n) (h2 : n ≤ l) : atI ((small l).map V.int) (n - 1) = some (.int ((small l).getD (n - 1).toNat 0)) := by
  have hlen : (n - 1).toNat < (small l).length := by
    rcases hl with rfl | rfl | rfl
    · show _ < 1; omega
    · show _ < 4; omega
    · show _ < 5; omega
  refine at_of (j := (n - 1).toNat) (by omega) ?_
  rw [List.getElem?_map, List.getElem?_eq_getElem hlen, List.getD_eq_getElem?_getD, List.getElem?_eq_getElem hlen]
  rfl
theorem ok_first_of (T : Tx K mg) : FnOk P w K mg base CX0 2 T.a_first_of T.d_first_of ["last", "number"] sp_first_of := by
  refine T.F_first_of.ok sc_first_of (fun vs H Q E h => ?_) (fun cdv A outer s H vs Q E hr h => ?_)
  · obtain ⟨l, n, rfl, _⟩ := h
    rfl
  · obtain ⟨l, n, rfl, hl, h1, h2, k⟩ := h
    refine ⟨_, (pss_cons (ps_if (pt_cmpR op_lt (pv 0) pe_int (nomark _)) (pss_one (ps_ret (pe_op op_sub (pe_ix (r := rIxT K) ix_tup (pe_ix (r := rIxI K) ix_kint (pe_glob (v := .ref T.c_FIRSTS) (by rfl) T.g_FIRSTS rfl) (pv 0) (fun _ _ => rfl)) (pe_op op_sub (pv 1) pe_int) (fun _ _ => rfl)) pe_int))) pss_nil)
      (pss_cons (ps_if (pt_cmpR op_eq (pe_op op_mod (pv 0) pe_int) pe_int (nomark _)) (pss_one (ps_ret (pe_op op_sub (pe_call (ok_first_by_fours T) (hr.mono (by decide)) (by rfl) T.g_first_by_fours T.F_first_by_fours.kp T.b_first_by_fours .nil pass0 (pa_cons (pe_op op_fdiv (pv 0) pe_int) (pa_cons (pv 1) pa_nil))) pe_int))) pss_nil)
      (pss_one (ps_ret (pe_op op_sub (pe_call (ok_first_by_ones T) (hr.mono (by decide)) (by rfl) T.g_first_by_ones T.F_first_by_ones.kp T.b_first_by_ones .nil pass0 (pa_cons (pe_op op_fdiv (pv 0) pe_int) (pa_cons (pv 1) pa_nil))) pe_int))))), ?_⟩
    unfold fst at k
    refine q_when (by walk_at "ev") (fun z H1 e1 => ?_) fun z H1 e1 => ?_
    · have z0 : l < 6 := of_decide_eq_true z
      rw [if_pos z0] at k
      have hs : l = 1 ∨ l = 4 ∨ l = 5 := by
        have := hl.1
        have := hl.2
        omega
      obtain ⟨a, ha, ht⟩ := T.k_FIRSTS l hs
      exact s_ret (ev_op (ev_op (ev_op ev_c (ev_var rfl) (rv_kint ha)) (by walk_at "ev") (rv_ixT (ht H1) (small_at hs h1 h2))) ev_c rv_I0) fun H2 e2 => k H2 (e1.trans e2)
    · have z0 : ¬ l < 6 := of_decide_eq_false z
      rw [if_neg z0] at k
      have := hl.2
      refine q_when (by walk_at "ev") (fun z H2 e2 => ?_) fun z H2 e2 => ?_
      · rw [if_pos (V.int.inj (of_decide_eq_true z))] at k
        exact s_ret (ev_op (ev_call (vs := [.int (l / 4), .int n]) (by walk_at "ev") (v_first_by_fours (by omega))) ev_c rv_I0) fun H3 e3 => k H3 ((e1.trans e2).trans e3)
      · rw [if_neg (fun y => (of_decide_eq_false z) (by rw [y]))] at k
        exact s_ret (ev_op (ev_call (vs := [.int (l / 4), .int n]) (by walk_at "ev") (v_first_by_ones (by omega))) ev_c rv_I0) fun H3 e3 => k H3 ((e1.trans e2).trans e3)
theorem v_first_of {l n : Int} {H : Hp} (h : Can l) (h1 : 1 ≤ n) (h2 : n ≤ l) : SpV sp_first_of [.int l, .int n] H (.int (fst l n)) := fun _ _ _ q _ => ⟨l, n, rfl, h, h1, h2, q⟩
def sp_both : Sp := fun vs H Q _ => ∃ l n : Int, vs = [.int l, .int n] ∧ Can l ∧ 1 ≤ n ∧ n ≤ l ∧ RetU [.int (fst l n), .int (fst l n + n)] H Q
theorem ok_both (T : Tx K mg) : FnOk P w K mg base CX0 3 T.a_both T.d_both ["last", "number"] sp_both := by
  refine T.F_both.ok sc_both (fun vs H Q E h => ?_) (fun cdv A outer s H vs Q E hr h => ?_)
  · obtain ⟨l, n, rfl, _⟩ := h
    rfl
  · obtain ⟨l, n, rfl, hl, h1, h2, k⟩ := h
    refine ⟨_, (pss_cons (ps_set (i := 2) sc_both.nd rfl (.inl rfl) (pe_call (ok_first_of T) (hr.mono (by decide)) (by rfl) T.g_first_of T.F_first_of.kp T.b_first_of .nil pass0 (pa_cons (pv 0) (pa_cons (pv 1) pa_nil))))
      (pss_one (ps_ret (pe_tup (pa_cons (pv 2) (pa_cons (pe_op op_add (pv 2) (pv 1)) pa_nil)))))), ?_⟩
    refine q_asg (ev_call (by walk_at "ev") (v_first_of hl h1 h2)) fun H1 e1 => ?_
    exact s_retU (eu_tup (by walk_at "ev") (by show 2 ≤ 100000; decide)) fun p H2 hp e2 h2 => k.go e1 hp e2 h2
theorem v_both {l n : Int} {H : Hp} (h : Can l) (h1 : 1 ≤ n) (h2 : n ≤ l) : SpU sp_both [.int l, .int n] H [.int (fst l n), .int (fst l n + n)] := fun _ _ _ q _ => ⟨l, n, rfl, h, h1, h2, q⟩
/-! ### places_of -/
theorem v_asked_row {T : Tx K mg} {n : Int} {H : Hp} (h : Can n) : SpV (sp_asked_row T) [.int n] H .non := fun _ _ _ q _ => ⟨_, rfl, .inl ⟨n, rfl, h, q⟩⟩
def sp_places_of (T : Tx K mg) : Sp := fun vs H Q E => ∃ v u, vs = [v, u] ∧ ((∃ l n : Int, v = .int l ∧ u = .int n ∧ Can l ∧ 1 ≤ n ∧ n ≤ l ∧ RetU [.int (fst l n), .int (fst l n + n)] H Q) ∨ LastX T v H E ∨
  ∃ l : Int, v = .int l ∧ Can l ∧ BadV K H u (fun n => n < 1 ∨ l < n) ∧ Err T.c_BadNumber H E)
theorem ok_places_of (T : Tx K mg) : FnOk P w K mg base (L2N.CX P w) 4 T.a_places_of T.d_places_of ["last", "number"] (sp_places_of T) := by
  refine okXN T.F_places_of sc_places_of (fun vs H Q E h => ?_) (fun cdv A outer s H vs Q E hr h => ?_)
  · obtain ⟨v, u, rfl, _⟩ := h
    rfl
  · obtain ⟨v, u, rfl, h⟩ := h
    refine ⟨_, (pss_cons (ps_expr (pe_call (ok_asked_row T) (hr.mono (by decide)) (by rfl) T.g_asked_row T.F_asked_row.kp T.b_asked_row .nil (L2N.passes_call (L2N.takes_of rfl rfl rfl rfl) (fun _ _ _ _ h => h)) (pa_cons (pv 0) pa_nil)))
      (pss_cons (ps_if (PW.pt (pw_or (pt_not (pt_val (pe_call (ok_is_number T) (hr.mono (by decide)) (by rfl) T.g_is_number T.F_is_number.kp T.b_is_number .nil pass0 (pa_cons (pv 1) pa_nil)))) (pw_or1 (pt_not (pt_chain op_le op_le pe_int (pv 1) (pv 0)))))) (pss_one (L2N.ps_raise rfl (L2N.takes_of rfl rfl rfl rfl) (L2N.pmk_own PySem.F.excBase_ValueError T.x_BadNumber.ex T.g_BadNumber T.x_BadNumber.kp (raises_own T.x_BadNumber.sb T.x_BadNumber.ty) (by rfl)))) pss_nil)
      (pss_one (ps_ret (pe_call (ok_both T) (hr.mono (by decide)) (by rfl) T.g_both T.F_both.kp T.b_both .nil pass0 (pa_cons (pv 0) (pa_cons (pv 1) pa_nil))))))), ?_⟩
    rcases h with ⟨l, n, rfl, rfl, hl, h1, h2, k⟩ | hx | ⟨l, rfl, hl, hb, k⟩
    · refine q_drop (ev_call (ea_cons (ev_var rfl) ea_nil) (v_asked_row (T := T) hl)) fun H1 e1 => ?_
      refine q_when (b := false) (et_is (et_or (et_not (et_B (ev_call (ea_cons (ev_var rfl) ea_nil) (v_is_number (Num.int n))))) fun _ => et_not (et_test (ev_chain ev_c (ev_var rfl) rv_I0 (fun _ => ev_var rfl) fun _ => rv_I0))) ?_) (fun z => nomatch z) fun _ H2 e2 => ?_
      · rw [decide_eq_true h1, decide_eq_true h2]
        rfl
      · exact s_retU (eu_call (by walk_at "ev") (v_both hl h1 h2)) fun p H3 hp e3 h3 => k.go (e1.trans e2) hp e3 h3
    · exact ⟨_, rfl, _, rfl, .inr hx⟩
    · refine q_drop (ev_call (ea_cons (ev_var rfl) ea_nil) (v_asked_row (T := T) hl)) fun H1 e1 => ?_
      rcases hb with hb | ⟨n, rfl, hn⟩
      · exact q_when (b := true) (et_is (a := !false || true) (et_or (et_not (et_B (ev_call (ea_cons (ev_var rfl) ea_nil) (v_is_number (hb.ex e1))))) fun z => nomatch z) rfl) (fun _ H2 e2 => k H2 (e1.trans e2)) (fun z => nomatch z)
      · refine q_when (b := true) (et_is (et_or (et_not (et_B (ev_call (ea_cons (ev_var rfl) ea_nil) (v_is_number (Num.int n))))) fun _ => et_not (et_test (ev_chain ev_c (ev_var rfl) rv_I0 (fun _ => ev_var rfl) fun _ => rv_I0))) ?_) (fun _ H2 e2 => k H2 (e1.trans e2)) (fun z => nomatch z)
        simp only [Bool.not_true, Bool.false_or, Bool.not_eq_true', Bool.and_eq_false_iff, decide_eq_false_iff_not]
        omega
theorem v_places_of {T : Tx K mg} {l n : Int} {H : Hp} (h : Can l) (h1 : 1 ≤ n) (h2 : n ≤ l) : SpU (sp_places_of T) [.int l, .int n] H [.int (fst l n), .int (fst l n + n)] := fun _ _ _ q _ => ⟨_, _, rfl, .inl ⟨l, n, rfl, rfl, h, h1, h2, q⟩⟩
/-! ### at_place -/
def sp_at_place : Sp := fun vs H Q _ => ∃ l q : Int, vs = [.int l, .int q] ∧ Can l ∧ 0 ≤ q ∧ q < 2 * l ∧ RetV (.int (num l q)) H Q
theorem et_cand {T : Tx K mg} {σ : L2.St} {H : Hp} {l q n : Int} {E : XK} (hl : Can l) (h0 : σ[0]? = some (some (.int l))) (h1 : σ[1]? = some (some (.int q))) (h7 : σ[7]? = some (some (.int n))) :
    EvT (tAnd (tTest (tChain (rI0 fun i j => .bl (decide (i ≤ j))) (rI0 fun i j => .bl (decide (i ≤ j))) (tC (.int 1)) (tVar 7) (tVar 0))) (tTest (tOp (rIn K false) (tVar 1) (tCall sp_both [] E (tCons (tVar 0) (tCons (tVar 7) tNil)))))) σ H (decide (At l q n)) := by
  by_cases hn : 1 ≤ n ∧ n ≤ l
  · refine et_is (et_and (et_test (ev_chain ev_c (ev_var h7) rv_I0 (fun _ => ev_var h0) fun _ => rv_I0)) fun _ => et_test (ev_inU (ev_var h1) (eu_call (ea_cons (ev_var h0) (ea_cons (ev_var h7) ea_nil)) (v_both hl hn.1 hn.2)) rfl rfl)) ?_
    rw [inV_pair, decide_eq_true hn.1, decide_eq_true hn.2]
    show decide _ = decide _
    refine decide_eq_decide.mpr ⟨fun z => ⟨hn, z⟩, fun z => z.2⟩
  · refine et_is (et_and (b := true) (et_test (ev_chain ev_c (ev_var h7) rv_I0 (fun _ => ev_var h0) fun _ => rv_I0)) fun z => ?_) ?_
    · simp only [Bool.and_eq_true, decide_eq_true_eq] at z
      exact absurd z hn
    · rw [decide_eq_false (p := At l q n) fun z => hn z.1, Bool.and_true, ← Bool.decide_and]
      exact decide_eq_false hn
theorem ok_at_place (T : Tx K mg) : FnOk P w K mg base CX0 4 T.a_at_place T.d_at_place ["last", "place"] sp_at_place := by
  refine T.F_at_place.ok sc_at_place (fun vs H Q E h => ?_) (fun cdv A outer s H vs Q E hr h => ?_)
  · obtain ⟨l, q, rfl, _⟩ := h
    rfl
  · obtain ⟨l, q, rfl, hl, h1, h2, k⟩ := h
    refine ⟨_, (pss_cons (ps_set (i := 2) sc_at_place.nd rfl (.inl rfl) (pe_op op_fdiv (pv 0) pe_int))
      (pss_cons (ps_set (i := 3) sc_at_place.nd rfl (.inl rfl) (pe_op op_add (pe_op op_mul pe_int (pv 2)) (pe_op op_mul pe_int (pe_op op_mod (pv 0) pe_int))))
      (pss_cons (ps_set (i := 4) sc_at_place.nd rfl (.inl rfl) (pe_op op_add (pv 1) pe_int))
      (pss_cons (ps_set (i := 5) sc_at_place.nd rfl (.inl rfl) (pe_lst (pa_cons (pe_op op_mul pe_int (pe_callB call_abs (by rfl) T.m_abs bt_abs (pa_cons (pe_op op_sub (pv 4) (pv 3)) pa_nil))) (pa_cons pe_int (pa_cons pe_int (pa_cons pe_int (pa_cons pe_int (pa_cons pe_int (pa_cons (pe_op op_sub (pe_op op_mul pe_int (pv 2)) pe_int) (pa_cons (pe_op op_add (pe_op op_mul pe_int (pv 2)) pe_int) (pa_cons (pe_op op_sub (pe_op op_mul pe_int (pv 2)) pe_int) (pa_cons (pe_op op_add (pe_op op_mul pe_int (pv 2)) pe_int) pa_nil))))))))))))
      (pss_cons (ps_for PassesOwn.never rfl (pi_tup (pe_tup (pa_cons (pe_un un_neg pe_int) (pa_cons pe_int (pa_cons pe_int pa_nil))))) (pg_name (i := 6) sc_at_place.nd rfl (Or.inl rfl))
      (pss_one (ps_expr (pe_bm PySem.F.plainAttrs_list PySem.F.slot_list_extend PySem.F.type_list_extend mt_extend (pv 5) (pa_cons (pe_lst (pa_cons (pe_op op_sub (pe_op op_add (pe_op op_mul pe_int (pv 2)) (pv 6)) (pe_op op_mul pe_int (pv 4))) (pa_cons (pe_op op_sub (pe_op op_sub (pe_op op_mul pe_int (pv 4)) (pe_op op_mul pe_int (pv 2))) (pv 6)) pa_nil))) pa_nil)))))
      (pss_one (ps_ret (pe_ix (r := rIxL K) ix_list (pe_lc (own := [("number", 7)]) (by rfl) sc_at_place.nd (pi_list (pv 5)) (blkOk_by (own := [("number", 7)]) (N := N_at_place) (sc := defScope s_at_place) (by decide +kernel)) (fun _ _ _ _ _ => (pg_name (i := 7) sc_at_place.nd rfl (Or.inl rfl))) (fun _ _ _ _ _ => pts_one (PW.pt (pw_and (pt_chain op_le op_le pe_int (pv 7) (pv 0)) (pw_and1 (pt_cmpR (r := rIn K false) op_in_seq (pv 1) (pe_call (ok_both T) (hr.mono (by decide)) (by rfl) T.g_both T.F_both.kp T.b_both .nil pass0 (pa_cons (pv 0) (pa_cons (pv 7) pa_nil))) (by rfl)))))) (fun _ _ _ _ _ => (pv 7))) pe_int (fun _ _ => rfl))))))))), ?_⟩
    refine q_asg (by walk_at "ev") fun H1 e1 => q_asg (by walk_at "ev") fun H2 e2 => q_asg (by walk_at "ev") fun H3 e3 => ?_
    refine q_asgL (el_lst (by walk_at "ev") (by show 10 ≤ 100000; decide)) fun a H4 ha e4 h4 => ?_
    have h4 : H4 a = some (.lst (((cand l q).take 10).map V.int)) := h4
    have e04 : Ex H H4 := ((e1.trans e2).trans e3).trans e4
    have ha0 : H a = none := fresh_back ((e1.trans e2).trans e3) ha
    refine q_forNU (xs := [.int (-1), .int 1, .int 3]) (eu_tup (by walk_at "ev") (by show 3 ≤ 100000; decide)) (fun p i σ' H' => (∃ y, σ' = [some (.int l), some (.int q), some (.int (l / 4)), some (.int (6 * (l / 4) + 2 * (l % 4))), some (.int (q + 1)), some (.ref a), y, none]) ∧ Ex H H' ∧ H' p = some (.tup [.int (-1), .int 1, .int 3]) ∧ p ≠ a ∧ H' a = some (.lst (((cand l q).take (10 + 2 * i)).map V.int)))
      (fun p H5 hp e5 h5 => ⟨⟨none, rfl⟩, e04.trans e5, h5, (fun z => by rw [z, h4] at hp; cases hp), e5 _ _ h4⟩) (fun p i σ' H' _ hP => st_of hP.2.2.1) ?_ ?_
    · rintro p i x σ' H' hi ⟨⟨y, rfl⟩, e', hp, np, h'⟩
      rcases i with _ | _ | _ | i
      · obtain rfl : V.int (-1) = x := Option.some.inj hi
        refine s_ext h' (ev_var rfl) (el_lst (by walk_at "ev") (by show 2 ≤ 100000; decide)) (by show 10 + 2 ≤ 100000; decide) fun H6 e6 => ⟨⟨_, rfl⟩, Ex.mut (e'.trans e6) ha0, ?_, np, upd_same⟩
        rw [upd_ne np]
        exact e6 _ _ hp
      · obtain rfl : V.int 1 = x := Option.some.inj hi
        refine s_ext h' (ev_var rfl) (el_lst (by walk_at "ev") (by show 2 ≤ 100000; decide)) (by show 12 + 2 ≤ 100000; decide) fun H6 e6 => ⟨⟨_, rfl⟩, Ex.mut (e'.trans e6) ha0, ?_, np, upd_same⟩
        rw [upd_ne np]
        exact e6 _ _ hp
      · obtain rfl : V.int 3 = x := Option.some.inj hi
        refine s_ext h' (ev_var rfl) (el_lst (by walk_at "ev") (by show 2 ≤ 100000; decide)) (by show 14 + 2 ≤ 100000; decide) fun H6 e6 => ⟨⟨_, rfl⟩, Ex.mut (e'.trans e6) ha0, ?_, np, upd_same⟩
        rw [upd_ne np]
        exact e6 _ _ hp
      · simp at hi
    · rintro p σ' H' ⟨⟨y, rfl⟩, e', hp, np, h'⟩
      have h' : H' a = some (.lst ((cand l q).map V.int)) := h'
      refine s_ret (ev_opL1 (el_is (el_lcL (xs := (cand l q).map V.int) (fun i => decide (At l q ((cand l q).getD i 0))) (fun i => .int ((cand l q).getD i 0)) (ev_var rfl) (sq_of h') (by show 16 ≤ 40000; decide) (fun _ => rfl)
          (fun i x H1 _ hi => by rw [getD_of hi]; exact et_cand (T := T) hl rfl rfl rfl) (fun i x H1 _ hi _ => by rw [getD_of hi]; exact ev_var rfl)) (given_filter (fun n => decide (At l q n)) (cand l q))) (fun _ _ => ev_c) fun p H6 hp6 e6 => rv_ixL (sq_of hp6) ?_) fun H7 e7 => k H7 (e'.trans e7)
      obtain ⟨r, er⟩ := filt_at hl (at_num hl h1 h2)
      rw [er]
      exact atI_nat (j := 0) rfl
theorem v_at_place {l q : Int} {H : Hp} (h : Can l) (h1 : 0 ≤ q) (h2 : q < 2 * l) : SpV sp_at_place [.int l, .int q] H (.int (num l q)) := fun _ _ _ k _ => ⟨l, q, rfl, h, h1, h2, k⟩
/-! ### number_at -/
def sp_number_at (T : Tx K mg) : Sp := fun vs H Q E => ∃ v u, vs = [v, u] ∧ ((∃ l q : Int, v = .int l ∧ u = .int q ∧ Can l ∧ 0 ≤ q ∧ q < 2 * l ∧ RetV (.int (num l q)) H Q) ∨ LastX T v H E ∨
  ∃ l : Int, v = .int l ∧ Can l ∧ BadV K H u (fun q => q < 0 ∨ 2 * l ≤ q) ∧ Err T.c_BadPlace H E)
theorem ok_number_at (T : Tx K mg) : FnOk P w K mg base (L2N.CX P w) 5 T.a_number_at T.d_number_at ["last", "place"] (sp_number_at T) := by
  refine okXN T.F_number_at sc_number_at (fun vs H Q E h => ?_) (fun cdv A outer s H vs Q E hr h => ?_)
  · obtain ⟨v, u, rfl, _⟩ := h
    rfl
  · obtain ⟨v, u, rfl, h⟩ := h
    refine ⟨_, (pss_cons (ps_expr (pe_call (ok_asked_row T) (hr.mono (by decide)) (by rfl) T.g_asked_row T.F_asked_row.kp T.b_asked_row .nil (L2N.passes_call (L2N.takes_of rfl rfl rfl rfl) (fun _ _ _ _ h => h)) (pa_cons (pv 0) pa_nil)))
      (pss_cons (ps_if (PW.pt (pw_or (pt_not (pt_val (pe_call (ok_is_number T) (hr.mono (by decide)) (by rfl) T.g_is_number T.F_is_number.kp T.b_is_number .nil pass0 (pa_cons (pv 1) pa_nil)))) (pw_or1 (pt_not (pt_chain op_le op_lt pe_int (pv 1) (pe_op op_mul pe_int (pv 0))))))) (pss_one (L2N.ps_raise rfl (L2N.takes_of rfl rfl rfl rfl) (L2N.pmk_own PySem.F.excBase_ValueError T.x_BadPlace.ex T.g_BadPlace T.x_BadPlace.kp (raises_own T.x_BadPlace.sb T.x_BadPlace.ty) (by rfl)))) pss_nil)
      (pss_one (ps_ret (pe_call (ok_at_place T) (hr.mono (by decide)) (by rfl) T.g_at_place T.F_at_place.kp T.b_at_place .nil pass0 (pa_cons (pv 0) (pa_cons (pv 1) pa_nil))))))), ?_⟩
    rcases h with ⟨l, q, rfl, rfl, hl, h1, h2, k⟩ | hx | ⟨l, rfl, hl, hb, k⟩
    · refine q_drop (ev_call (ea_cons (ev_var rfl) ea_nil) (v_asked_row (T := T) hl)) fun H1 e1 => ?_
      refine q_when (b := false) (et_is (et_or (et_not (et_B (ev_call (ea_cons (ev_var rfl) ea_nil) (v_is_number (Num.int q))))) fun _ => et_not (et_test (ev_chain ev_c (ev_var rfl) rv_I0 (fun _ => by walk_at "ev") fun _ => rv_I0))) ?_) (fun z => nomatch z) fun _ H2 e2 => ?_
      · rw [decide_eq_true h1, decide_eq_true h2]
        rfl
      · exact s_ret (ev_call (by walk_at "ev") (v_at_place hl h1 h2)) fun H3 e3 => k H3 ((e1.trans e2).trans e3)
    · exact ⟨_, rfl, _, rfl, .inr hx⟩
    · refine q_drop (ev_call (ea_cons (ev_var rfl) ea_nil) (v_asked_row (T := T) hl)) fun H1 e1 => ?_
      rcases hb with hb | ⟨q, rfl, hq⟩
      · exact q_when (b := true) (et_is (a := !false || true) (et_or (et_not (et_B (ev_call (ea_cons (ev_var rfl) ea_nil) (v_is_number (hb.ex e1))))) fun z => nomatch z) rfl) (fun _ H2 e2 => k H2 (e1.trans e2)) (fun z => nomatch z)
      · refine q_when (b := true) (et_is (et_or (et_not (et_B (ev_call (ea_cons (ev_var rfl) ea_nil) (v_is_number (Num.int q))))) fun _ => et_not (et_test (ev_chain ev_c (ev_var rfl) rv_I0 (fun _ => by walk_at "ev") fun _ => rv_I0))) ?_) (fun _ H2 e2 => k H2 (e1.trans e2)) (fun z => nomatch z)
        simp only [Bool.not_true, Bool.false_or, Bool.not_eq_true', Bool.and_eq_false_iff, decide_eq_false_iff_not]
        omega
theorem v_number_at {T : Tx K mg} {l q : Int} {H : Hp} (h : Can l) (h1 : 0 ≤ q) (h2 : q < 2 * l) : SpV (sp_number_at T) [.int l, .int q] H (.int (num l q)) := fun _ _ _ k _ => ⟨_, _, rfl, .inl ⟨l, q, rfl, rfl, h, h1, h2, k⟩⟩
end
end PA

set_option Elab.async false
set_option linter.all false
set_option maxRecDepth 100000
set_option maxHeartbeats 4000000
namespace PA
open PySem PySem.Spec PyProof.Rows L2 Evl
local macro_rules | `(tactic| walk_at "ev") => `(tactic| repeat' (first | (with_reducible exact ev_c) | (with_reducible refine' ev_var ?_) | (show _ = some (some _); rfl) | (with_reducible exact ea_nil) | (with_reducible refine' ea_cons ?_ ?_) | (with_reducible refine' ev_abs ?_) | (with_reducible refine' ev_op ?_ ?_ ?_) | (with_reducible exact rv_I0) | (exact rv_mulL (by decide)) | (exact rv_mulR (by decide)) | (exact rv_div (by decide)) | (exact rv_mod (by decide)) | (exact rv_pow (by decide)) | (with_reducible refine' ev_un ?_ ?_) | (with_reducible exact ru_neg) | (exact rv_eq rfl) | (exact rv_ne rfl) | (with_reducible refine' et_test ?_) | (with_reducible refine' et_B ?_) | (exact ev_c) | (exact rv_I0) | (exact ru_neg) | (exact ea_nil) | (refine' ea_cons ?_ ?_)))
section
variable {P : Program} {w : World} {K : PySem.W.Frag} {mg : Str → Option Value} {base : Heap}
/-! ### can -/
def sp_can (T : Tx K mg) : Sp := fun vs H Q E => ∃ v, vs = [v] ∧ ((∃ n : Int, v = .int n ∧ 1 ≤ n ∧ (n % 4 < 2 → RetI T.c_Can [] H Q) ∧ (¬ n % 4 < 2 → RetI T.c_Barred [] H Q)) ∨ (BadV K H v (· < 1) ∧ Err T.c_BadLast H E))
theorem ok_can (T : Tx K mg) : FnOk P w K mg base (L2N.CX P w) 3 T.a_can T.d_can ["last"] (sp_can T) := by
  refine okXN T.F_can sc_can (fun vs H Q E h => ?_) (fun cdv A outer s H vs Q E hr h => ?_)
  · obtain ⟨v, rfl, _⟩ := h
    rfl
  · obtain ⟨v, rfl, h⟩ := h
    refine ⟨_, (pss_cons (ps_expr (pe_call (ok_asked_last T) (hr.mono (by decide)) (by rfl) T.g_asked_last T.F_asked_last.kp T.b_asked_last .nil (L2N.passes_call (L2N.takes_of rfl rfl rfl rfl) (fun _ _ _ _ h => h)) (pa_cons (pv 0) pa_nil)))
      (pss_one (ps_ret (pe_ifExp (pt_cmpR op_lt (pe_op op_mod (pv 0) pe_int) pe_int (nomark _)) (pe_new0 T.n_Can (by rfl) T.g_Can) (pe_new0 T.n_Barred (by rfl) T.g_Barred))))), ?_⟩
    rcases h with ⟨n, rfl, h1, kc, kb⟩ | ⟨hb, k⟩
    · refine q_drop (ev_call (ea_cons (ev_var rfl) ea_nil) (v_asked_last (T := T) h1)) fun H1 e1 => ?_
      refine x_if (by walk_at "ev") (fun z H2 e2 => ?_) fun z H2 e2 => ?_
      · exact (ei_new (C := T.c_Can)) H2 (Ex.refl _) _ fun p dx H3 hp e3 h3 => (kc (of_decide_eq_true z)).go (e1.trans e2) hp e3 h3
      · exact (ei_new (C := T.c_Barred)) H2 (Ex.refl _) _ fun p dx H3 hp e3 h3 => (kb (of_decide_eq_false z)).go (e1.trans e2) hp e3 h3
    · exact ⟨_, rfl, _, rfl, .inr ⟨hb, k⟩⟩
theorem v_can1 {T : Tx K mg} {n : Int} {H : Hp} (h : 1 ≤ n) (h4 : n % 4 < 2) : SpI (sp_can T) [.int n] H T.c_Can [] := fun _ _ _ q _ => ⟨_, rfl, .inl ⟨n, rfl, h, fun _ => q, fun z => absurd h4 z⟩⟩
theorem v_can0 {T : Tx K mg} {n : Int} {H : Hp} (h : 1 ≤ n) (h4 : ¬ n % 4 < 2) : SpI (sp_can T) [.int n] H T.c_Barred [] := fun _ _ _ q _ => ⟨_, rfl, .inl ⟨n, rfl, h, fun z => absurd z h4, fun _ => q⟩⟩
end
end PA

set_option Elab.async false
set_option linter.all false
set_option maxRecDepth 100000
set_option maxHeartbeats 4000000
namespace PA
open PySem PySem.Spec PyProof.Rows L2 Evl
local macro_rules | `(tactic| walk_at "ev") => `(tactic| repeat' (first | (with_reducible exact ev_c) | (with_reducible refine' ev_var ?_) | (show _ = some (some _); rfl) | (with_reducible exact ea_nil) | (with_reducible refine' ea_cons ?_ ?_) | (with_reducible refine' ev_abs ?_) | (with_reducible refine' ev_op ?_ ?_ ?_) | (with_reducible exact rv_I0) | (exact rv_mulL (by decide)) | (exact rv_mulR (by decide)) | (exact rv_div (by decide)) | (exact rv_mod (by decide)) | (exact rv_pow (by decide)) | (with_reducible refine' ev_un ?_ ?_) | (with_reducible exact ru_neg) | (exact rv_eq rfl) | (exact rv_ne rfl) | (with_reducible refine' et_test ?_) | (with_reducible refine' et_B ?_) | (exact ev_c) | (exact rv_I0) | (exact ru_neg) | (exact ea_nil) | (refine' ea_cons ?_ ?_)))
section
variable {P : Program} {w : World} {K : PySem.W.Frag} {mg : Str → Option Value} {base : Heap}
theorem at_fst {l n : Int} (h1 : 1 ≤ n) (h2 : n ≤ l) : At l (fst l n) n := ⟨⟨h1, h2⟩, .inl rfl⟩
theorem at_snd {l n : Int} (h1 : 1 ≤ n) (h2 : n ≤ l) : At l (fst l n + n) n := ⟨⟨h1, h2⟩, .inr rfl⟩
/-! ### row -/
theorem ite_iff {a b : Prop} [Decidable a] [Decidable b] {x y : Int} (h : a ↔ b) : (if a then x else y) = if b then x else y := by
  by_cases ha : a
  · rw [if_pos ha, if_pos (h.mp ha)]
  · rw [if_neg ha, if_neg fun z => ha (h.mpr z)]
/-- what stands at a place when the numbers to k are laid, and the first place of the next one where c is 1 -/
def laid (l k : Int) (c : Nat) (j : Nat) : Int := if num l j ≤ k ∨ (c = 1 ∧ (j : Int) = fst l (k + 1)) then num l j else 0
theorem laid_first {l k : Int} (hl : Can l) (h0 : 0 ≤ k) (h1 : k < l) : (tabl (2 * l).toNat (laid l k 0)).set (fst l (k + 1)).toNat (k + 1) = tabl (2 * l).toNat (laid l k 1) := by
  have fr := fst_rng hl (show 1 ≤ k + 1 by omega) (show k + 1 ≤ l by omega)
  rw [tabl_set]
  refine tabl_congr fun i hi => ?_
  by_cases e : i = (fst l (k + 1)).toNat
  · have e2 : (i : Int) = fst l (k + 1) := by omega
    have e3 : num l i = k + 1 := by rw [e2]; exact num_at hl (at_fst (by omega) (by omega))
    rw [if_pos e]
    unfold laid
    rw [if_pos (.inr ⟨rfl, e2⟩), e3]
  · have e2 : ¬ (i : Int) = fst l (k + 1) := by omega
    rw [if_neg e]
    unfold laid
    have p : (num l i ≤ k ∨ (0 = 1 ∧ (i : Int) = fst l (k + 1))) ↔ (num l i ≤ k ∨ (1 = 1 ∧ (i : Int) = fst l (k + 1))) := by omega
    exact ite_iff p
theorem laid_second {l k : Int} (hl : Can l) (h0 : 0 ≤ k) (h1 : k < l) : (tabl (2 * l).toNat (laid l k 1)).set (fst l (k + 1) + (k + 1)).toNat (k + 1) = tabl (2 * l).toNat (laid l (k + 1) 0) := by
  have fr := fst_rng hl (show 1 ≤ k + 1 by omega) (show k + 1 ≤ l by omega)
  rw [tabl_set]
  refine tabl_congr fun i hi => ?_
  by_cases e : i = (fst l (k + 1) + (k + 1)).toNat
  · have e2 : (i : Int) = fst l (k + 1) + (k + 1) := by omega
    have e3 : num l i = k + 1 := by rw [e2]; exact num_at hl (at_snd (by omega) (by omega))
    rw [if_pos e]
    unfold laid
    rw [if_pos (.inl (by omega)), e3]
  · have e2 : ¬ (i : Int) = fst l (k + 1) + (k + 1) := by omega
    rw [if_neg e]
    have ha := at_num hl (show 0 ≤ (i : Int) by omega) (show (i : Int) < 2 * l by omega)
    unfold laid
    by_cases e3 : num l i = k + 1
    · have e4 : (i : Int) = fst l (k + 1) := by
        rcases ha.2 with z | z
        · rw [e3] at z; exact z
        · rw [e3] at z; exact absurd z e2
      rw [if_pos (.inr ⟨rfl, e4⟩), if_pos (.inl (by omega))]
    · have nf : ¬ (i : Int) = fst l (k + 1) := fun z => e3 (num_at hl ⟨⟨by omega, by omega⟩, .inl z⟩)
      have p : (num l i ≤ k ∨ (1 = 1 ∧ (i : Int) = fst l (k + 1))) ↔ (num l i ≤ k + 1 ∨ (0 = 1 ∧ (i : Int) = fst l (k + 1 + 1))) := by omega
      exact ite_iff p
theorem laid_zero {l : Int} (hl : Can l) : tabl (2 * l).toNat (laid l 0 0) = List.replicate (2 * l).toNat 0 := by
  rw [← tabl_const]
  refine tabl_congr fun i hi => ?_
  have ha := at_num hl (show 0 ≤ (i : Int) by omega) (show (i : Int) < 2 * l by omega)
  have := ha.1.1
  unfold laid
  refine if_neg ?_
  omega
theorem laid_last {l : Int} (hl : Can l) : tabl (2 * l).toNat (laid l l 0) = rowL l := by
  show _ = tabl (2 * l).toNat (fun j => num l j)
  refine tabl_congr fun i hi => ?_
  have ha := at_num hl (show 0 ≤ (i : Int) by omega) (show (i : Int) < 2 * l by omega)
  unfold laid
  exact if_pos (.inl ha.1.2)
def sp_row (T : Tx K mg) : Sp := fun vs H Q E => ∃ v, vs = [v] ∧ ((∃ l : Int, v = .int l ∧ Can l ∧ l ≤ 100 ∧ RetL ((rowL l).map V.int) H Q) ∨ (BadV K H v (fun l => l < 1 ∨ 100 < l) ∧ Err T.c_BadLast H E) ∨
  ∃ l : Int, v = .int l ∧ 1 ≤ l ∧ l ≤ 100 ∧ 1 < l % 4 ∧ Err T.c_NoRow H E)
theorem ok_row (T : Tx K mg) : FnOk P w K mg base (L2N.CX P w) 4 T.a_row T.d_row ["last"] (sp_row T) := by
  refine okXN T.F_row sc_row (fun vs H Q E h => ?_) (fun cdv A outer s H vs Q E hr h => ?_)
  · obtain ⟨v, rfl, _⟩ := h
    rfl
  · obtain ⟨v, rfl, h⟩ := h
    refine ⟨_, (pss_cons (ps_expr (pe_call (ok_asked_last T) (hr.mono (by decide)) (by rfl) T.g_asked_last T.F_asked_last.kp T.b_asked_last .nil (L2N.passes_call (L2N.takes_of rfl rfl rfl rfl) (fun _ _ _ _ h => h)) (pa_cons (pv 0) pa_nil)))
      (pss_cons (ps_if (pt_cmpR op_gt (pv 0) (pe_glob (v := .int 100) (by rfl) T.c_GREATEST ⟨_, rfl⟩) (nomark _)) (pss_one (L2N.ps_raise rfl (L2N.takes_of rfl rfl rfl rfl) (L2N.pmk_own PySem.F.excBase_ValueError T.x_BadLast.ex T.g_BadLast T.x_BadLast.kp (raises_own T.x_BadLast.sb T.x_BadLast.ty) (by rfl)))) pss_nil)
      (pss_cons (ps_expr (pe_call (ok_asked_row T) (hr.mono (by decide)) (by rfl) T.g_asked_row T.F_asked_row.kp T.b_asked_row .nil (L2N.passes_call (L2N.takes_of rfl rfl rfl rfl) (fun _ _ _ _ h => h)) (pa_cons (pv 0) pa_nil)))
      (pss_cons (ps_set (i := 1) sc_row.nd rfl (.inl rfl) (pe_op op_rep (pe_lst (pa_cons pe_int pa_nil)) (pe_op op_mul pe_int (pv 0))))
      (pss_cons (ps_for (passes_of rfl) rfl (pi_range2 (by rfl) T.m_range (pa_cons pe_int (pa_cons (pe_op op_add (pv 0) pe_int) pa_nil))) (pg_name (i := 2) sc_row.nd rfl (Or.inl rfl))
      (pss_one (ps_for (passes_of rfl) rfl (pi_tup (pe_call (ok_both T) (hr.mono (by decide)) (by rfl) T.g_both T.F_both.kp T.b_both .nil pass0 (pa_cons (pv 0) (pa_cons (pv 2) pa_nil)))) (pg_name (i := 3) sc_row.nd rfl (Or.inl rfl))
      (pss_one (ps_asg (pv 2) (pg_sub (pv 1) (pv 3) set_list))))))
      (pss_one (ps_ret (pv 1)))))))), ?_⟩
    rcases h with ⟨l, rfl, hl, h100, k⟩ | ⟨hb, k⟩ | ⟨l, rfl, h1, h2, h4, k⟩
    · refine q_drop (ev_call (ea_cons (ev_var rfl) ea_nil) (v_asked_last (T := T) hl.1)) fun H1 e1 => ?_
      refine q_when (b := false) (et_is (et_test (ev_op (ev_var rfl) ev_c rv_I0)) (decide_eq_false (by omega))) (fun z => nomatch z) fun _ H2 e2 => ?_
      refine q_drop (ev_call (ea_cons (ev_var rfl) ea_nil) (v_asked_row (T := T) hl)) fun H3 e3 => ?_
      have l1 := hl.1
      refine q_asgL (xs := (tabl (2 * l).toNat (laid l 0 0)).map V.int) (el_is (el_rep (el_lst (by walk_at "ev") (by show 1 ≤ 100000; decide)) (by walk_at "ev") (by omega) (by omega) (by show 1 * _ ≤ _; omega)) (by rw [laid_zero hl]; exact rep_flat _ 0)) fun b H4 hb e4 h4 => ?_
      have e03 := (e1.trans e2).trans e3
      have hb0 : H b = none := fresh_back e03 hb
      refine q_forR2 (lo := 1) (n := l + 1) (by walk_at "ev") (by omega) (fun i σ' H' => (∃ y2 y3, σ' = [some (.int l), some (.ref b), y2, y3]) ∧ Ex H H' ∧ H' b = some (.lst ((tabl (2 * l).toNat (laid l i 0)).map V.int)))
        (fun H5 e5 => ⟨⟨_, _, rfl⟩, (e03.trans e4).trans e5, e5 _ _ h4⟩) ?_ ?_
      · rintro i σ' H' hi ⟨⟨y2, y3, rfl⟩, e5, h5⟩
        have hn1 : (1 : Int) ≤ 1 + i := by omega
        have hn2 : (1 : Int) + i ≤ l := by omega
        have ei : (1 : Int) + i = i + 1 := by omega
        have fr := fst_rng hl hn1 hn2
        refine (eu_call (xs := [.int (fst l (1 + i)), .int (fst l (1 + i) + (1 + i))]) (by walk_at "ev") (v_both hl hn1 hn2)) H' (Ex.refl H') _ fun p H7 hp e7 h7 => ⟨p, rfl, ⟨_, st_of h7⟩, ?_⟩
        have npb : p ≠ b := fun z => by rw [z, h5] at hp; cases hp
        refine for_tup (xs := [.int (fst l (1 + i)), .int (fst l (1 + i) + (1 + i))]) (fun c σ' H' => (∃ y3, σ' = [some (.int l), some (.ref b), some (.int (1 + i)), y3]) ∧ Ex H H' ∧ H' p = some (.tup [.int (fst l (1 + i)), .int (fst l (1 + i) + (1 + i))]) ∧ H' b = some (.lst ((tabl (2 * l).toNat (if c = 2 then laid l (i + 1) 0 else laid l i c)).map V.int)))
          ⟨⟨_, rfl⟩, e5.trans e7, h7, e7 _ _ h5⟩ (fun c σ' H' _ h => st_of h.2.2.1) ?_ ?_
        · rintro c x σ' H' hc ⟨⟨y3, rfl⟩, e8, hp8, h8⟩
          have key : ∃ (q : Int) (g : Nat → Int), At l q (1 + i) ∧ c ≤ 1 ∧ x = .int q ∧ (tabl (2 * l).toNat (laid l i c)).set q.toNat (1 + i) = tabl (2 * l).toNat g ∧ g = (if c + 1 = 2 then laid l (i + 1) 0 else laid l i (c + 1)) := by
            rcases c with _ | _ | c
            · have f := laid_first hl (show 0 ≤ (i : Int) by omega) (show (i : Int) < l by omega)
              rw [← ei] at f
              exact ⟨_, _, at_fst hn1 hn2, by omega, (Option.some.inj hc).symm, f, rfl⟩
            · have f := laid_second hl (show 0 ≤ (i : Int) by omega) (show (i : Int) < l by omega)
              rw [← ei] at f
              exact ⟨_, _, at_snd hn1 hn2, by omega, (Option.some.inj hc).symm, f, by rw [ei]; rfl⟩
            · simp at hc
          obtain ⟨q, g, hq, hc1, rfl, hset, hg⟩ := key
          have c2 : c ≠ 2 := by omega
          rw [if_neg c2] at h8
          have hr0 : 0 ≤ q ∧ q < 2 * l := by
            rcases hq.2 with e | e <;> omega
          have hjl : q.toNat < (2 * l).toNat := by omega
          have eq0 : ((q.toNat : Nat) : Int) = q := by omega
          refine s_setL (j := q.toNat) (v := .int (1 + i)) h8 (ev_var rfl) (ev_var rfl) (by rw [eq0]; exact ev_var rfl) (by rw [List.length_map, tabl_len]; exact hjl) fun H9 e9 => ⟨⟨_, rfl⟩, Ex.mut (e8.trans e9) hb0, ?_, ?_⟩
          · rw [upd_ne npb]
            exact e9 _ _ hp8
          · rw [upd_same, ← hg, ← hset, List.map_set]
        · rintro σ' H' ⟨⟨y3, rfl⟩, e8, hp8, h8⟩
          exact ⟨⟨_, _, rfl⟩, e8, h8⟩
      · rintro σ' H' ⟨⟨y2, y3, rfl⟩, e5, h5⟩
        have el2 : (((l + 1 - 1).toNat : Nat) : Int) = l := by omega
        rw [el2, laid_last hl] at h5
        exact s_ret (ev_var rfl) fun H6 e6 => k b H6 hb0 (e5.trans e6) (e6 _ _ h5)
    · rcases hb with hb | ⟨l, rfl, hl⟩
      · exact ⟨_, rfl, _, rfl, .inr ⟨.inl hb, k⟩⟩
      · by_cases h1 : l < 1
        · exact ⟨_, rfl, _, rfl, .inr ⟨.inr ⟨l, rfl, h1⟩, k⟩⟩
        · refine q_drop (ev_call (ea_cons (ev_var rfl) ea_nil) (v_asked_last (T := T) (n := l) (by omega))) fun H1 e1 => ?_
          exact q_when (b := true) (et_is (et_test (ev_op (ev_var rfl) ev_c rv_I0)) (decide_eq_true (by omega))) (fun _ H2 e2 => k H2 (e1.trans e2)) (fun z => nomatch z)
    · refine q_drop (ev_call (ea_cons (ev_var rfl) ea_nil) (v_asked_last (T := T) h1)) fun H1 e1 => ?_
      refine q_when (b := false) (et_is (et_test (ev_op (ev_var rfl) ev_c rv_I0)) (decide_eq_false (by omega))) (fun z => nomatch z) fun _ H2 e2 => ?_
      exact ⟨_, rfl, _, rfl, .inr (.inr ⟨l, rfl, h1, h4, fun H3 e3 => k H3 ((e1.trans e2).trans e3)⟩)⟩
theorem v_row {T : Tx K mg} {l : Int} {H : Hp} (h : Can l) (h1 : l ≤ 100) : SpL (sp_row T) [.int l] H ((rowL l).map V.int) := fun _ _ _ q _ => ⟨_, rfl, .inl ⟨l, rfl, h, h1, q⟩⟩
end
end PA

set_option Elab.async false
set_option linter.all false
set_option maxRecDepth 100000
set_option maxHeartbeats 4000000
namespace PA
open PySem PySem.Spec PyProof.Rows L2 Evl
local macro_rules | `(tactic| walk_at "ev") => `(tactic| repeat' (first | (with_reducible exact ev_c) | (with_reducible refine' ev_var ?_) | (show _ = some (some _); rfl) | (with_reducible exact ea_nil) | (with_reducible refine' ea_cons ?_ ?_) | (with_reducible refine' ev_abs ?_) | (with_reducible refine' ev_op ?_ ?_ ?_) | (with_reducible exact rv_I0) | (exact rv_mulL (by decide)) | (exact rv_mulR (by decide)) | (exact rv_div (by decide)) | (exact rv_mod (by decide)) | (exact rv_pow (by decide)) | (with_reducible refine' ev_un ?_ ?_) | (with_reducible exact ru_neg) | (exact rv_eq rfl) | (exact rv_ne rfl) | (with_reducible refine' et_test ?_) | (with_reducible refine' et_B ?_) | (exact ev_c) | (exact rv_I0) | (exact ru_neg) | (exact ea_nil) | (refine' ea_cons ?_ ?_)))
section
variable {P : Program} {w : World} {K : PySem.W.Frag} {mg : Str → Option Value} {base : Heap}
/-! ### three_by, three_of -/
def sp_three_by : Sp := fun vs H Q _ => ∃ l n : Int, vs = [.int l, .int n] ∧ Can l ∧ 1 ≤ n ∧ n ≤ l ∧ RetL ((three l n).map V.int) H Q
theorem ok_three_by (T : Tx K mg) : FnOk P w K mg base CX0 3 T.a_three_by T.d_three_by ["last", "number"] sp_three_by := by
  refine T.F_three_by.ok sc_three_by (fun vs H Q E h => ?_) (fun cdv A outer s H vs Q E hr h => ?_)
  · obtain ⟨l, n, rfl, _⟩ := h
    rfl
  · obtain ⟨l, n, rfl, hl, h1, h2, k⟩ := h
    refine ⟨_, (pss_cons (ps_set (i := 2) sc_three_by.nd rfl (.inl rfl) (pe_op op_add (pe_op op_add (pv 0) (pe_call (ok_first_of T) (hr.mono (by decide)) (by rfl) T.g_first_of T.F_first_of.kp T.b_first_of .nil pass0 (pa_cons (pv 0) (pa_cons (pv 1) pa_nil)))) pe_int))
      (pss_one (ps_ret (pe_lst (pa_cons (pv 1) (pa_cons (pv 2) (pa_cons (pe_op op_add (pv 2) (pv 1)) pa_nil))))))), ?_⟩
    refine q_asg (v := .int (l + fst l n + 1)) (ev_op (ev_op (ev_var rfl) (ev_call (by walk_at "ev") (v_first_of hl h1 h2)) rv_I0) ev_c rv_I0) fun H1 e1 => ?_
    refine s_retL (el_is (el_lst (by walk_at "ev") (by show 3 ≤ 100000; decide)) ?_) fun p H2 hp e2 h2 => k.go e1 hp e2 h2
    unfold three
    rw [bas_low h2]
    rfl
theorem v_three_by {l n : Int} {H : Hp} (h : Can l) (h1 : 1 ≤ n) (h2 : n ≤ l) : SpL sp_three_by [.int l, .int n] H ((three l n).map V.int) := fun _ _ _ q _ => ⟨l, n, rfl, h, h1, h2, q⟩
def sp_three_of (T : Tx K mg) : Sp := fun vs H Q E => ∃ v u, vs = [v, u] ∧ ((∃ l n : Int, v = .int l ∧ u = .int n ∧ Can l ∧ 1 ≤ n ∧ n ≤ 3 * l ∧ RetL ((three l n).map V.int) H Q) ∨ LastX T v H E ∨
  ∃ l : Int, v = .int l ∧ Can l ∧ BadV K H u (fun n => n < 1 ∨ 3 * l < n) ∧ Err T.c_BadNumber H E)
theorem ok_three_of (T : Tx K mg) : FnOk P w K mg base (L2N.CX P w) 5 T.a_three_of T.d_three_of ["last", "number"] (sp_three_of T) := by
  refine okXN T.F_three_of sc_three_of (fun vs H Q E h => ?_) (fun cdv A outer s H vs Q E hr h => ?_)
  · obtain ⟨v, u, rfl, _⟩ := h
    rfl
  · obtain ⟨v, u, rfl, h⟩ := h
    refine ⟨_, (pss_cons (ps_expr (pe_call (ok_asked_row T) (hr.mono (by decide)) (by rfl) T.g_asked_row T.F_asked_row.kp T.b_asked_row .nil (L2N.passes_call (L2N.takes_of rfl rfl rfl rfl) (fun _ _ _ _ h => h)) (pa_cons (pv 0) pa_nil)))
      (pss_cons (ps_if (PW.pt (pw_or (pt_not (pt_val (pe_call (ok_is_number T) (hr.mono (by decide)) (by rfl) T.g_is_number T.F_is_number.kp T.b_is_number .nil pass0 (pa_cons (pv 1) pa_nil)))) (pw_or1 (pt_not (pt_chain op_le op_le pe_int (pv 1) (pe_op op_mul pe_int (pv 0))))))) (pss_one (L2N.ps_raise rfl (L2N.takes_of rfl rfl rfl rfl) (L2N.pmk_own PySem.F.excBase_ValueError T.x_BadNumber.ex T.g_BadNumber T.x_BadNumber.kp (raises_own T.x_BadNumber.sb T.x_BadNumber.ty) (by rfl)))) pss_nil)
      (pss_one (ps_ret (pe_call (ok_three_by T) (hr.mono (by decide)) (by rfl) T.g_three_by T.F_three_by.kp T.b_three_by .nil pass0 (pa_cons (pv 0) (pa_cons (pe_ifExp (pt_cmpR op_le (pv 1) (pv 0) (nomark _)) (pv 1) (pe_call (ok_at_place T) (hr.mono (by decide)) (by rfl) T.g_at_place T.F_at_place.kp T.b_at_place .nil pass0 (pa_cons (pv 0) (pa_cons (pe_op op_sub (pe_op op_sub (pv 1) (pv 0)) pe_int) pa_nil)))) pa_nil))))))), ?_⟩
    rcases h with ⟨l, n, rfl, rfl, hl, h1, h2, k⟩ | hx | ⟨l, rfl, hl, hb, k⟩
    · refine q_drop (ev_call (ea_cons (ev_var rfl) ea_nil) (v_asked_row (T := T) hl)) fun H1 e1 => ?_
      refine q_when (b := false) (et_is (et_or (et_not (et_B (ev_call (ea_cons (ev_var rfl) ea_nil) (v_is_number (Num.int n))))) fun _ => et_not (et_test (ev_chain ev_c (ev_var rfl) rv_I0 (fun _ => by walk_at "ev") fun _ => rv_I0))) ?_) (fun z => nomatch z) fun _ H2 e2 => ?_
      · rw [decide_eq_true h1, decide_eq_true h2]
        rfl
      · have b := bas_rng hl h1 h2
        refine s_retL (el_is (el_call (vs := [.int l, .int (bas l n)]) (ea_cons (ev_var rfl) (ea_cons (ev_is (ev_ifV (w := .int (num l (n - l - 1))) (by walk_at "ev") (fun _ => ev_var rfl) fun z => ?_) ?_) ea_nil)) (v_three_by hl b.1 b.2)) ?_) fun p H3 hp e3 h3 => k.go (e1.trans e2) hp e3 h3
        · have z := of_decide_eq_false z
          exact ev_call (vs := [.int l, .int (n - l - 1)]) (by walk_at "ev") (v_at_place hl (by omega) (by omega))
        · unfold bas
          simp only [decide_eq_true_eq]
          split <;> rfl
        · unfold three
          rw [bas_low b.2]
    · exact ⟨_, rfl, _, rfl, .inr hx⟩
    · refine q_drop (ev_call (ea_cons (ev_var rfl) ea_nil) (v_asked_row (T := T) hl)) fun H1 e1 => ?_
      rcases hb with hb | ⟨n, rfl, hn⟩
      · exact q_when (b := true) (et_is (a := !false || true) (et_or (et_not (et_B (ev_call (ea_cons (ev_var rfl) ea_nil) (v_is_number (hb.ex e1))))) fun z => nomatch z) rfl) (fun _ H2 e2 => k H2 (e1.trans e2)) (fun z => nomatch z)
      · refine q_when (b := true) (et_is (et_or (et_not (et_B (ev_call (ea_cons (ev_var rfl) ea_nil) (v_is_number (Num.int n))))) fun _ => et_not (et_test (ev_chain ev_c (ev_var rfl) rv_I0 (fun _ => by walk_at "ev") fun _ => rv_I0))) ?_) (fun _ H2 e2 => k H2 (e1.trans e2)) (fun z => nomatch z)
        simp only [Bool.not_true, Bool.false_or, Bool.not_eq_true', Bool.and_eq_false_iff, decide_eq_false_iff_not]
        omega
theorem v_three_of {T : Tx K mg} {l n : Int} {H : Hp} (h : Can l) (h1 : 1 ≤ n) (h2 : n ≤ 3 * l) : SpL (sp_three_of T) [.int l, .int n] H ((three l n).map V.int) := fun _ _ _ q _ => ⟨_, _, rfl, .inl ⟨l, n, rfl, rfl, h, h1, h2, q⟩⟩
end
end PA

set_option Elab.async false
set_option linter.all false
set_option maxRecDepth 100000
set_option maxHeartbeats 4000000
namespace PA
open PySem PySem.Spec PyProof.Rows L2 Evl
local macro_rules | `(tactic| walk_at "ev") => `(tactic| repeat' (first | (with_reducible exact ev_c) | (with_reducible refine' ev_var ?_) | (show _ = some (some _); rfl) | (with_reducible exact ea_nil) | (with_reducible refine' ea_cons ?_ ?_) | (with_reducible refine' ev_abs ?_) | (with_reducible refine' ev_op ?_ ?_ ?_) | (with_reducible exact rv_I0) | (exact rv_mulL (by decide)) | (exact rv_mulR (by decide)) | (exact rv_div (by decide)) | (exact rv_mod (by decide)) | (exact rv_pow (by decide)) | (with_reducible refine' ev_un ?_ ?_) | (with_reducible exact ru_neg) | (exact rv_eq rfl) | (exact rv_ne rfl) | (with_reducible refine' et_test ?_) | (with_reducible refine' et_B ?_) | (exact ev_c) | (exact rv_I0) | (exact ru_neg) | (exact ea_nil) | (refine' ea_cons ?_ ?_)))
section
variable {P : Program} {w : World} {K : PySem.W.Frag} {mg : Str → Option Value} {base : Heap}
/-! ### is_right -/
theorem ev_count {σ : L2.St} {H : Hp} {ta tb : TE} {a : Addr} {ns : List Int} {n : Int} (h : Ev ta σ H (.ref a)) (hs : SqL K H a (ns.map V.int)) (hn : Ev tb σ H (.int n)) : Ev (tBM K "list" (rCntI K) ta (tCons tb tNil)) σ H (.int ((ns.count n : Nat) : Int)) := fun H1 e Q q =>
  h H1 e _ fun H2 e2 => ⟨Or.inl ⟨rfl, _, ex_l (e.trans e2) hs⟩, hn H2 (e.trans e2) _ fun H3 e3 => ⟨a, ns, n, rfl, rfl, ex_l ((e.trans e2).trans e3) hs, q H3 (e2.trans e3)⟩⟩
theorem ev_index {σ : L2.St} {H : Hp} {ta tb : TE} {a : Addr} {ns : List Int} {n : Int} {j : Nat} (h : Ev ta σ H (.ref a)) (hs : SqL K H a (ns.map V.int)) (hn : Ev tb σ H (.int n)) (hj : ns[j]? = some n) (hf : ∀ m z, m < j → ns[m]? = some z → z ≠ n) : Ev (tBM K "list" (rIndex K) ta (tCons tb tNil)) σ H (.int (j : Nat)) := fun H1 e Q q =>
  h H1 e _ fun H2 e2 => ⟨Or.inl ⟨rfl, _, ex_l (e.trans e2) hs⟩, hn H2 (e.trans e2) _ fun H3 e3 => ⟨a, ns.map V.int, .int n, j, .int n, rfl, rfl, ex_l ((e.trans e2).trans e3) hs, rfl, List.all_eq_true.mpr fun v hv => (by
      obtain ⟨x, _, rfl⟩ := List.mem_map.mp hv
      rfl), by rw [List.getElem?_map, hj]; rfl, (by show (n == n) = true; exact beq_self_eq_true n), fun m z' hm hz => (by
      rw [List.getElem?_map] at hz
      cases e4 : ns[m]? with
      | none => rw [e4] at hz; cases hz
      | some z =>
        rw [e4] at hz
        have : V.int z = z' := Option.some.inj hz
        subst this
        show (z == n) = false
        exact beq_eq_false_iff_ne.mpr (hf m z hm e4)), q H3 (e2.trans e3)⟩⟩
def sp_is_right (K : PySem.W.Frag) : Sp := fun vs H Q _ => ∃ (a : Addr) (ns : List Int) (n : Int), vs = [.ref a, .int n] ∧ SqL K H a (ns.map V.int) ∧ 1 ≤ n ∧ RetV (.bl (rgt ns n)) H Q
theorem ok_is_right (T : Tx K mg) : FnOk P w K mg base CX0 1 T.a_is_right T.d_is_right ["row", "number"] (sp_is_right K) := by
  refine T.F_is_right.ok sc_is_right (fun vs H Q E h => ?_) (fun cdv A outer s H vs Q E hr h => ?_)
  · obtain ⟨a, ns, n, rfl, _⟩ := h
    rfl
  · obtain ⟨a, ns, n, rfl, hS, h1, k⟩ := h
    refine ⟨_, (pss_cons (ps_if (pt_cmpR op_ne (pe_bm PySem.F.plainAttrs_list PySem.F.slot_list_count PySem.F.type_list_count mt_lcount (pv 0) (pa_cons (pv 1) pa_nil)) pe_int (nomark _)) (pss_one (ps_ret pe_bl)) pss_nil)
      (pss_cons (ps_set (i := 2) sc_is_right.nd rfl (.inl rfl) (pe_bm PySem.F.plainAttrs_list PySem.F.slot_list_index PySem.F.type_list_index mt_index (pv 0) (pa_cons (pv 1) pa_nil)))
      (pss_one (ps_ret (pe_and (pe_cmpR op_lt (pe_op op_add (pv 2) (pv 1)) (pe_callB (r := rLenS K) call_len_seq (by rfl) T.m_len bt_len (pa_cons (pv 0) pa_nil)) (nomark _)) (pe_one (pe_cmpR op_eq (pe_ix (r := rIxL K) ix_list (pv 0) (pe_op op_add (pv 2) (pv 1)) (fun _ _ => rfl)) (pv 1) (nomark _)))))))), ?_⟩
    refine q_when (et_test (ev_op (ev_count (ev_var rfl) hS (ev_var rfl)) ev_c (rv_ne rfl))) (fun z H1 e1 => ?_) fun z H1 e1 => ?_
    · have hc : (posL ns n).length ≠ 2 := fun y => by
        rw [count_pos, y] at z
        simp at z
      rw [rgt_no hc] at k
      exact s_ret (by walk_at "ev") fun H2 e2 => k H2 (e1.trans e2)
    · have hc : (posL ns n).length = 2 := by
        rw [count_pos] at z
        simp only [Bool.not_eq_false', decide_eq_true_eq, V.int.injEq] at z
        omega
      obtain ⟨i, j, hp, hij⟩ := pair_of hc
      have pf := pos_first hp hij
      have S1 := ex_l e1 hS
      refine q_asg (ev_index (ev_var rfl) S1 (ev_var rfl) pf.1 pf.2) fun H2 e2 => ?_
      have S2 := ex_l e2 S1
      have r := rgt_at hp hij h1
      have il := lt_of pf.1
      refine s_ret (v := .bl (rgt ns n)) (ev_is (ev_andV (ev_op (by walk_at "ev") (ev_len (ev_var rfl) S2) rv_I0) fun z => ev_op (ev_op (ev_var rfl) (by walk_at "ev") (rv_ixL S2 (atI_int (i := (i : Int) + n) (by omega) ?_))) (ev_var rfl) (rv_eq rfl)) ?_) fun H3 e3 => k H3 ((e1.trans e2).trans e3)
      · have := of_decide_eq_true z
        rw [List.length_map] at this
        exact this
      · rw [← r, List.length_map]
        congr 2
        exact decide_eq_decide.mpr ⟨fun z => V.int.inj z, fun z => by rw [z]⟩
theorem v_is_right {a : Addr} {ns : List Int} {n : Int} {H : Hp} (hS : SqL K H a (ns.map V.int)) (h1 : 1 ≤ n) : SpV (sp_is_right K) [.ref a, .int n] H (.bl (rgt ns n)) := fun _ e _ q _ => ⟨a, ns, n, rfl, ex_l e hS, h1, q⟩
/-! ### Good.shows -/
def sp_Good_shows (K : PySem.W.Frag) : Sp := fun vs H Q _ => ∃ (p a : Addr) (ns : List Int), vs = [.ref p, .ref a] ∧ SqL K H a (ns.map V.int) ∧ ns.length ≤ 1000 ∧ RetV (.bl (good ns)) H Q
theorem ok_Good_shows (T : Tx K mg) : FnOk P w K mg base CX0 2 T.a_Good_shows T.d_Good_shows ["self", "row"] (sp_Good_shows K) := by
  refine T.F_Good_shows.ok sc_Good_shows (fun vs H Q E h => ?_) (fun cdv A outer s H vs Q E hr h => ?_)
  · obtain ⟨p, a, ns, rfl, _⟩ := h
    rfl
  · obtain ⟨p, a, ns, rfl, hS, hlen, k⟩ := h
    refine ⟨_, (pss_one (ps_ret (pe_callB (r := rAll K) (cr_all rfl) (by rfl) T.m_all bt_all (pa_cons (pe_lc (own := [("number", 2)]) (by rfl) sc_Good_shows.nd (pi_range2 (by rfl) T.m_range (pa_cons pe_int (pa_cons (pe_op op_add (pe_op op_fdiv (pe_callB (r := rLenS K) call_len_seq (by rfl) T.m_len bt_len (pa_cons (pv 1) pa_nil)) pe_int) pe_int) pa_nil))) (blkOk_by (own := [("number", 2)]) (N := N_Good_shows) (sc := defScope s_Good_shows) (by decide +kernel)) (fun _ _ _ _ _ => (pg_name (i := 2) sc_Good_shows.nd rfl (Or.inl rfl))) (fun _ _ _ _ _ => pts_nil) (fun _ _ _ _ _ => (pe_call (ok_is_right T) (hr.mono (by decide)) (by rfl) T.g_is_right T.F_is_right.kp T.b_is_right .nil pass0 (pa_cons (pv 1) (pa_cons (pv 2) pa_nil))))) pa_nil)))), ?_⟩
    have el : (((ns.map V.int).length : Nat) : Int) = (ns.length : Int) := by rw [List.length_map]
    refine s_ret (v := .bl (good ns)) (ev_is (ev_allN (b := fun i => rgt ns (1 + (i : Int))) (el_lcR2 (lo := 1) (n := (ns.length : Int) / 2 + 1) (fun _ => true) (fun i => .bl (rgt ns (1 + (i : Int)))) (ea_cons ev_c (ea_cons (ev_op (ev_op (ev_lenI (ev_var rfl) hS) ev_c (rv_div (by decide))) ev_c rv_I0) ea_nil)) (by omega) (fun _ => rfl) (fun _ _ _ _ => et_yes)
      fun i H1 e1 hi _ => ev_call (vs := [.ref a, .int (1 + (i : Int))]) (by walk_at "ev") (v_is_right (ex_l e1 hS) (by omega)))) ?_) k
    unfold good
    rw [show ((ns.length : Int) / 2 + 1 - 1).toNat = ns.length / 2 by omega]
theorem v_Good_shows {p a : Addr} {ns : List Int} {H : Hp} (hS : SqL K H a (ns.map V.int)) (h1 : ns.length ≤ 1000) : SpV (sp_Good_shows K) [.ref p, .ref a] H (.bl (good ns)) := fun _ e _ q _ => ⟨p, a, ns, rfl, ex_l e hS, h1, q⟩
/-! ### Off -/
theorem ok_Off___init__ (T : Tx K mg) : FnOk P w K mg base CX0 1 T.a_Off___init__ T.d_Off___init__ ["self", "number"] (sp_init1 T.c_Off "number") := by
  refine T.F_Off___init__.ok sc_Off___init__ (fun vs H Q E h => ?_) (fun cdv A outer s H vs Q E hr h => ?_)
  · obtain ⟨p, dx, v, rfl, _⟩ := h
    rfl
  · obtain ⟨p, dx, v, rfl, hp, k⟩ := h
    refine ⟨_, (pss_one (ps_fld (pv 0) (pv 1) rfl)), ?_⟩
    exact ⟨_, rfl, _, rfl, p, T.c_Off, dx, [], rfl, hp, T.i_Off.cl, T.na_Off_number, (by show 0 < 1000; decide), k⟩
/-- what Off(n).shows tells -/
def off (ns : List Int) (n : Int) : Bool := (decide (1 ≤ n) && decide (n ≤ ((ns.length / 2 : Nat) : Int))) && !(rgt ns n)
def sp_Off_shows (T : Tx K mg) : Sp := fun vs H Q _ => ∃ (p dx a : Addr) (n : Int) (ns : List Int), vs = [.ref p, .ref a] ∧ H p = some (.ins T.c_Off dx [("number", .int n)]) ∧ SqL K H a (ns.map V.int) ∧ RetV (.bl (off ns n)) H Q
theorem ok_Off_shows (T : Tx K mg) : FnOk P w K mg base CX0 2 T.a_Off_shows T.d_Off_shows ["self", "row"] (sp_Off_shows T) := by
  refine T.F_Off_shows.ok sc_Off_shows (fun vs H Q E h => ?_) (fun cdv A outer s H vs Q E hr h => ?_)
  · obtain ⟨p, dx, a, n, ns, rfl, _⟩ := h
    rfl
  · obtain ⟨p, dx, a, n, ns, rfl, hp, hS, k⟩ := h
    refine ⟨_, (pss_one (ps_ret (pe_and (pe_chain op_le op_le pe_int (pe_fld (pv 0) rfl) (pe_op op_fdiv (pe_callB (r := rLenS K) call_len_seq (by rfl) T.m_len bt_len (pa_cons (pv 1) pa_nil)) pe_int)) (pe_one (pe_not (pe_call (ok_is_right T) (hr.mono (by decide)) (by rfl) T.g_is_right T.F_is_right.kp T.b_is_right .nil pass0 (pa_cons (pv 1) (pa_cons (pe_fld (pv 0) rfl) pa_nil)))))))), ?_⟩
    have el : (((ns.map V.int).length : Nat) : Int) = (ns.length : Int) := by rw [List.length_map]
    have fl : ∀ {σ : L2.St} {H2 : Hp}, Ex H H2 → σ[0]? = some (some (.ref p)) → Ev (tFld K (tVar 0) "number") σ H2 (.int n) := fun e hv => ev_fld (e _ _ hp) (ev_var hv) T.i_Off.cl T.na_Off_number rfl
    refine s_ret (v := .bl (off ns n)) (ev_is (ev_andV (ev_chain ev_c (fl (Ex.refl _) rfl) rv_I0 (fun _ => ev_op (ev_lenI (ev_var rfl) hS) ev_c (rv_div (by decide))) fun _ => rv_I0) fun z => ev_notV (ev_call (vs := [.ref a, .int n]) (ea_cons (ev_var rfl) (ea_cons (fl (Ex.refl _) rfl) ea_nil)) (v_is_right hS ?_))) ?_) k
    · simp only [Bool.and_eq_true, decide_eq_true_eq] at z
      exact z.1
    · unfold off
      congr 3
theorem v_Off_shows {T : Tx K mg} {p dx a : Addr} {n : Int} {ns : List Int} {H : Hp} (hp : H p = some (.ins T.c_Off dx [("number", .int n)])) (hS : SqL K H a (ns.map V.int)) : SpV (sp_Off_shows T) [.ref p, .ref a] H (.bl (off ns n)) := fun _ e _ q _ => ⟨p, dx, a, n, ns, rfl, e _ _ hp, ex_l e hS, q⟩
end
end PA

set_option Elab.async false
set_option linter.all false
set_option maxRecDepth 100000
set_option maxHeartbeats 4000000
namespace PA
open PySem PySem.Spec PyProof.Rows L2 Evl
local macro_rules | `(tactic| walk_at "ev") => `(tactic| repeat' (first | (with_reducible exact ev_c) | (with_reducible refine' ev_var ?_) | (show _ = some (some _); rfl) | (with_reducible exact ea_nil) | (with_reducible refine' ea_cons ?_ ?_) | (with_reducible refine' ev_abs ?_) | (with_reducible refine' ev_op ?_ ?_ ?_) | (with_reducible exact rv_I0) | (exact rv_mulL (by decide)) | (exact rv_mulR (by decide)) | (exact rv_div (by decide)) | (exact rv_mod (by decide)) | (exact rv_pow (by decide)) | (with_reducible refine' ev_un ?_ ?_) | (with_reducible exact ru_neg) | (exact rv_eq rfl) | (exact rv_ne rfl) | (with_reducible refine' et_test ?_) | (with_reducible refine' et_B ?_) | (exact ev_c) | (exact rv_I0) | (exact ru_neg) | (exact ea_nil) | (refine' ea_cons ?_ ?_)))
section
variable {P : Program} {w : World} {K : PySem.W.Frag} {mg : Str → Option Value} {base : Heap}
/-! ### asked_list -/
def RowLen (n : Nat) : Prop := 2 ≤ n ∧ n ≤ 400 ∧ n % 2 = 0
instance (n : Nat) : Decidable (RowLen n) := inferInstanceAs (Decidable (_ ∧ _ ∧ _))
/-- no row: no list, of no length that is due, or one with a thing that is no whole number -/
def NoRowV (K : PySem.W.Frag) (H : Hp) (v : V) : Prop := (∃ T, TyX K H v (.type T) ∧ kitB T "list" = some false) ∨ (∃ a xs, v = .ref a ∧ SqL K H a xs ∧ ¬ RowLen xs.length) ∨
  ∃ (a : Addr) (xs : List V) (f : Nat → Bool), v = .ref a ∧ SqL K H a xs ∧ RowLen xs.length ∧ (∀ i x, xs[i]? = some x → Num K H x (f i)) ∧ ∃ i, i < xs.length ∧ f i = false
theorem NoRowV.ex {H H' : Hp} {v : V} (e : Ex H H') (h : NoRowV K H v) : NoRowV K H' v := by
  rcases h with ⟨T, a, b⟩ | ⟨a, xs, r, s, l⟩ | ⟨a, xs, f, r, s, l, n, z⟩
  · exact .inl ⟨T, ex_ty e a, b⟩
  · exact .inr (.inl ⟨a, xs, r, ex_l e s, l⟩)
  · exact .inr (.inr ⟨a, xs, f, r, ex_l e s, l, fun i x hi => (n i x hi).ex e, z⟩)
def sp_asked_list (T : Tx K mg) : Sp := fun vs H Q E => ∃ v, vs = [v] ∧ ((∃ (a : Addr) (ns : List Int), v = .ref a ∧ SqL K H a (ns.map V.int) ∧ RowLen ns.length ∧ RetV .non H Q) ∨ (NoRowV K H v ∧ Err T.c_BadRow H E))
theorem et_len {σ : L2.St} {H : Hp} {a : Addr} {xs : List V} {c : V} {t0 : Tok} (T : Tx K mg) (hv : σ[0]? = some (some (.ref a))) (hs : SqL K H a xs) (b : Bool) (hb : b = !decide (RowLen xs.length)) :
    EvT (tOr (tNot (tB (tCB (rIsi K) (tCons (tVar 0) (tCons (tC (.ty "list")) tNil))))) (tOr (tNot (tTest (tChain (rI0 fun i j => .bl (decide (i ≤ j))) (rI0 fun i j => .bl (decide (i ≤ j))) (tC (.int 2)) (tCB (rLenS K) (tCons (tVar 0) tNil)) (tC (.int 400))))) (tTest (tOp rEq (tOp (rI (fun _ j => 0 < j) fun i j => .int (i % j)) (tCB (rLenS K) (tCons (tVar 0) tNil)) (tC (.int 2))) (tC (.int 1)))))) σ H b := by
  refine et_is (et_or (et_not (et_B (ev_isi (ea_cons (ev_var hv) (ea_cons ev_c ea_nil)) (.ty "list") (tyx_sq hs) (kit_ty (b := "list") (r := true) (by decide +kernel))))) fun _ => et_or (et_not (et_test (ev_chain ev_c (ev_len (ev_var hv) hs) rv_I0 (fun _ => ev_c) fun _ => rv_I0))) fun _ => et_test (ev_op (ev_op (ev_len (ev_var hv) hs) ev_c (rv_mod (by decide))) ev_c (rv_eq rfl))) ?_
  rw [hb]
  by_cases h : RowLen xs.length
  · have hh : 2 ≤ xs.length ∧ xs.length ≤ 400 ∧ xs.length % 2 = 0 := h
    have e1 : decide ((2 : Int) ≤ (xs.length : Int)) = true := decide_eq_true (by omega)
    have e2 : decide ((xs.length : Int) ≤ 400) = true := decide_eq_true (by omega)
    have e3 : decide (V.int ((xs.length : Int) % 2) = V.int 1) = false := decide_eq_false fun z => by have := V.int.inj z; omega
    rw [decide_eq_true h, e1, e2, e3]
    rfl
  · rw [decide_eq_false h]
    have hh : ¬ (2 ≤ xs.length ∧ xs.length ≤ 400 ∧ xs.length % 2 = 0) := h
    show (!true || (!(decide ((2 : Int) ≤ (xs.length : Int)) && decide ((xs.length : Int) ≤ 400)) || decide (V.int ((xs.length : Int) % 2) = V.int 1))) = true
    by_cases h1 : (2 : Int) ≤ (xs.length : Int) ∧ (xs.length : Int) ≤ 400
    · have e3 : decide (V.int ((xs.length : Int) % 2) = V.int 1) = true := decide_eq_true (by rw [show (xs.length : Int) % 2 = 1 by omega])
      rw [e3]
      simp
    · have : (decide ((2 : Int) ≤ (xs.length : Int)) && decide ((xs.length : Int) ≤ 400)) = false := by
        rw [← Bool.decide_and]
        exact decide_eq_false h1
      rw [this]
      rfl
theorem ok_asked_list (T : Tx K mg) : FnOk P w K mg base (L2N.CX P w) 2 T.a_asked_list T.d_asked_list ["row"] (sp_asked_list T) := by
  refine okXN T.F_asked_list sc_asked_list (fun vs H Q E h => ?_) (fun cdv A outer s H vs Q E hr h => ?_)
  · obtain ⟨v, rfl, _⟩ := h
    rfl
  · obtain ⟨v, rfl, h⟩ := h
    refine ⟨_, (pss_cons (ps_if (PW.pt (pw_or (pt_not (pt_val (pe_callB (r := rIsi K) call_isi (by rfl) T.m_isinstance bt_isinstance (pa_cons (pv 0) (pa_cons (pe_bltn (v := .ty "list") (by rfl) T.m_list bt_list rfl) pa_nil))))) (pw_or (pt_not (pt_chain op_le op_le pe_int (pe_callB (r := rLenS K) call_len_seq (by rfl) T.m_len bt_len (pa_cons (pv 0) pa_nil)) (pe_glob (v := .int 400) (by rfl) T.c_MOST ⟨_, rfl⟩))) (pw_or1 (pt_cmpR op_eq (pe_op op_mod (pe_callB (r := rLenS K) call_len_seq (by rfl) T.m_len bt_len (pa_cons (pv 0) pa_nil)) pe_int) pe_int (nomark _)))))) (pss_one (L2N.ps_raise rfl (L2N.takes_of rfl rfl rfl rfl) (L2N.pmk_own PySem.F.excBase_ValueError T.x_BadRow.ex T.g_BadRow T.x_BadRow.kp (raises_own T.x_BadRow.sb T.x_BadRow.ty) (by rfl)))) pss_nil)
      (pss_one (ps_if (pt_not (pt_val (pe_callB (r := rAll K) (cr_all rfl) (by rfl) T.m_all bt_all (pa_cons (pe_lc (own := [("one", 1)]) (by rfl) sc_asked_list.nd (pi_list (pv 0)) (blkOk_by (own := [("one", 1)]) (N := N_asked_list) (sc := defScope s_asked_list) (by decide +kernel)) (fun _ _ _ _ _ => (pg_name (i := 1) sc_asked_list.nd rfl (Or.inl rfl))) (fun _ _ _ _ _ => pts_nil) (fun _ _ _ _ _ => (pe_call (ok_is_number T) (hr.mono (by decide)) (by rfl) T.g_is_number T.F_is_number.kp T.b_is_number .nil pass0 (pa_cons (pv 1) pa_nil)))) pa_nil)))) (pss_one (L2N.ps_raise rfl (L2N.takes_of rfl rfl rfl rfl) (L2N.pmk_own PySem.F.excBase_ValueError T.x_BadRow.ex T.g_BadRow T.x_BadRow.kp (raises_own T.x_BadRow.sb T.x_BadRow.ty) (by rfl)))) pss_nil))), ?_⟩
    have nums : ∀ {a : Addr} {xs : List V} {f : Nat → Bool} {H1 : Hp}, SqL K H1 a xs → xs.length ≤ 400 → (∀ i x, xs[i]? = some x → Num K H1 x (f i)) → EvT (tNot (tB (tCB (rAll K) (tCons (tLc (iList K (tVar 0)) (gName 1) tYes (tCall (sp_is_number K) [] E0 (tCons (tVar 1) tNil)) [1]) tNil)))) (start ["row", "one"] [.ref a]) H1 (!(List.range xs.length).all f) := fun hs hl hn =>
      et_not (et_B (ev_allN (el_lcL (fun _ => true) (fun i => .bl _) (ev_var rfl) hs (by omega) (fun _ => rfl) (fun _ _ _ _ _ => et_yes) fun i x H2 e2 hi _ => ev_call (ea_cons (ev_var rfl) ea_nil) (v_is_number ((hn i x hi).ex e2)))))
    rcases h with ⟨a, ns, rfl, hs, hl, k⟩ | ⟨hb, k⟩
    · refine q_when (b := false) (et_len (c := .non) (t0 := 0) T rfl hs _ (by rw [List.length_map, decide_eq_true hl]; rfl)) (fun z => nomatch z) fun _ H1 e1 => ?_
      refine s_when (b := false) (et_is (nums (f := fun _ => true) (ex_l e1 hs) (by rw [List.length_map]; exact hl.2.1) fun i x hi => by rw [getD_of hi]; exact Num.int _) (by rw [show (List.range (ns.map V.int).length).all (fun _ => true) = true from List.all_eq_true.mpr fun _ _ => rfl]; rfl)) (fun z => nomatch z) fun _ H2 e2 => k H2 (e1.trans e2)
    · rcases hb with ⟨ty, ht, hk⟩ | ⟨a, xs, rfl, hs, hl⟩ | ⟨a, xs, f, rfl, hs, hl, hn, i, hi, hf⟩
      · exact q_when (b := true) (et_is (a := !false || true) (et_or (et_not (et_B (ev_isi (ea_cons (ev_var rfl) (ea_cons ev_c ea_nil)) (.ty "list") ht (kit_ty hk)))) fun z => nomatch z) rfl) (fun _ H1 e1 => k H1 e1) (fun z => nomatch z)
      · exact q_when (b := true) (et_len (c := .non) (t0 := 0) T rfl hs _ (by rw [decide_eq_false hl]; rfl)) (fun _ H1 e1 => k H1 e1) (fun z => nomatch z)
      · refine q_when (b := false) (et_len (c := .non) (t0 := 0) T rfl hs _ (by rw [decide_eq_true hl]; rfl)) (fun z => nomatch z) fun _ H1 e1 => ?_
        refine s_when (b := true) (et_is (nums (f := f) (ex_l e1 hs) hl.2.1 fun i x hi => (hn i x hi).ex e1) ?_) (fun _ H2 e2 => k H2 (e1.trans e2)) (fun z => nomatch z)
        rw [show (List.range xs.length).all f = false from List.all_eq_false.mpr ⟨i, List.mem_range.mpr hi, by rw [hf]; decide⟩]
        rfl
theorem v_asked_list {T : Tx K mg} {a : Addr} {ns : List Int} {H : Hp} (hs : SqL K H a (ns.map V.int)) (hl : RowLen ns.length) : SpV (sp_asked_list T) [.ref a] H .non := fun _ e _ q _ => ⟨_, rfl, .inl ⟨a, ns, rfl, ex_l e hs, hl, q⟩⟩
/-! ### told, mirrored -/
/-- an answer to a row: a Good, or an Off with this number -/
def IsG (T : Tx K mg) (v : V) (H : Hp) : Prop := ∃ p dx, v = .ref p ∧ H p = some (.ins T.c_Good dx [])
def IsO (T : Tx K mg) (n : Int) (v : V) (H : Hp) : Prop := ∃ p dx, v = .ref p ∧ H p = some (.ins T.c_Off dx [("number", .int n)])
def IsA (T : Tx K mg) (ns : List Int) (v : V) (H : Hp) : Prop := (good ns = true ∧ IsG T v H) ∨ (good ns = false ∧ IsO T (offN ns) v H)
theorem isA_stab {T : Tx K mg} {ns : List Int} : Stab (IsA T ns) := fun v H H' e h => by
  rcases h with ⟨g, p, dx, r, hp⟩ | ⟨g, p, dx, r, hp⟩
  · exact .inl ⟨g, p, dx, r, e _ _ hp⟩
  · exact .inr ⟨g, p, dx, r, e _ _ hp⟩
def sp_told (T : Tx K mg) : Sp := fun vs H Q E => ∃ v, vs = [v] ∧ ((∃ (a : Addr) (ns : List Int), v = .ref a ∧ SqL K H a (ns.map V.int) ∧ RowLen ns.length ∧ ∀ v H1, Ex H H1 → IsA T ns v H1 → Q v H1) ∨ (NoRowV K H v ∧ Err T.c_BadRow H E))
theorem ok_told (T : Tx K mg) : FnOk P w K mg base (L2N.CX P w) 3 T.a_told T.d_told ["row"] (sp_told T) := by
  refine okXN T.F_told sc_told (fun vs H Q E h => ?_) (fun cdv A outer s H vs Q E hr h => ?_)
  · obtain ⟨v, rfl, _⟩ := h
    rfl
  · obtain ⟨v, rfl, h⟩ := h
    refine ⟨_, (pss_cons (ps_expr (pe_call (ok_asked_list T) (hr.mono (by decide)) (by rfl) T.g_asked_list T.F_asked_list.kp T.b_asked_list .nil (L2N.passes_call (L2N.takes_of rfl rfl rfl rfl) (fun _ _ _ _ h => h)) (pa_cons (pv 0) pa_nil)))
      (pss_cons (ps_for (passes_of rfl) rfl (pi_range2 (by rfl) T.m_range (pa_cons pe_int (pa_cons (pe_op op_add (pe_op op_fdiv (pe_callB (r := rLenS K) call_len_seq (by rfl) T.m_len bt_len (pa_cons (pv 0) pa_nil)) pe_int) pe_int) pa_nil))) (pg_name (i := 1) sc_told.nd rfl (Or.inl rfl))
      (pss_one (ps_if (pt_not (pt_val (pe_call (ok_is_right T) (hr.mono (by decide)) (by rfl) T.g_is_right T.F_is_right.kp T.b_is_right .nil pass0 (pa_cons (pv 0) (pa_cons (pv 1) pa_nil))))) (pss_one (ps_ret (pe_make T.n_Off (ok_Off___init__ T) (hr.mono (by decide)) (by rfl) T.g_Off T.b_Off___init__ .nil pass0 (pa_cons (pv 1) pa_nil)))) pss_nil)))
      (pss_one (ps_ret (pe_new0 T.n_Good (by rfl) T.g_Good))))), ?_⟩
    rcases h with ⟨a, ns, rfl, hs, hl, k⟩ | ⟨hb, k⟩
    · refine q_drop (ev_call (ea_cons (ev_var rfl) ea_nil) (v_asked_list (T := T) hs hl)) fun H1 e1 => ?_
      have s1 := ex_l e1 hs
      have l2 := hl.2.1
      refine q_forR2 (lo := 1) (n := (ns.length : Int) / 2 + 1) (ea_cons ev_c (ea_cons (ev_op (ev_op (ev_lenI (ev_var rfl) s1) ev_c (rv_div (by decide))) ev_c rv_I0) ea_nil)) (by omega) (fun i σ' H' => (∃ y, σ' = [some (.ref a), y]) ∧ Ex H H' ∧ ∀ j : Nat, j < i → rgt ns (1 + (j : Int)) = true) (fun H2 e2 => ⟨⟨_, rfl⟩, e1.trans e2, fun j hj => nomatch hj⟩) ?_ ?_
      · rintro i σ' H' hi ⟨⟨y, rfl⟩, e', hg⟩
        refine s_when (et_not (et_B (ev_call (vs := [.ref a, .int (1 + (i : Int))]) (by walk_at "ev") (v_is_right (ex_l e' hs) (by omega))))) (fun z H2 e2 => ?_) fun z H2 e2 => ⟨⟨_, rfl⟩, e'.trans e2, fun j hj => ?_⟩
        · have z : rgt ns (1 + (i : Int)) = false := by simpa using z
          have o := offN_at (show i < ns.length / 2 by omega) z hg
          refine s_retI (ei_make (f := "number") (by walk_at "ev")) fun p dx H3 hp e3 h3 => k _ H3 ((e'.trans e2).trans e3) (.inr ⟨o.2, p, dx, rfl, ?_⟩)
          rw [o.1]
          exact h3
        · have z : rgt ns (1 + (i : Int)) = true := by simpa using z
          by_cases e : j = i
          · rw [e]; exact z
          · exact hg j (by omega)
      · rintro σ' H' ⟨⟨y, rfl⟩, e', hg⟩
        refine s_retI ei_new fun p dx H3 hp e3 h3 => k _ H3 (e'.trans e3) (.inl ⟨?_, p, dx, rfl, h3⟩)
        unfold good
        exact List.all_eq_true.mpr fun i hi => hg i (by have := List.mem_range.mp hi; omega)
    · exact ⟨_, rfl, _, rfl, .inr ⟨hb, k⟩⟩
theorem v_told {T : Tx K mg} {a : Addr} {ns : List Int} {H : Hp} (hs : SqL K H a (ns.map V.int)) (hl : RowLen ns.length) : SpQ (sp_told T) [.ref a] H (IsA T ns) := fun _ e _ q _ => ⟨_, rfl, .inl ⟨a, ns, rfl, ex_l e hs, hl, q⟩⟩
def sp_mirrored (T : Tx K mg) : Sp := fun vs H Q E => ∃ v, vs = [v] ∧ ((∃ (a : Addr) (ns : List Int), v = .ref a ∧ SqL K H a (ns.map V.int) ∧ RowLen ns.length ∧ RetL (ns.reverse.map V.int) H Q) ∨ (NoRowV K H v ∧ Err T.c_BadRow H E))
theorem ok_mirrored (T : Tx K mg) : FnOk P w K mg base (L2N.CX P w) 3 T.a_mirrored T.d_mirrored ["row"] (sp_mirrored T) := by
  refine okXN T.F_mirrored sc_mirrored (fun vs H Q E h => ?_) (fun cdv A outer s H vs Q E hr h => ?_)
  · obtain ⟨v, rfl, _⟩ := h
    rfl
  · obtain ⟨v, rfl, h⟩ := h
    refine ⟨_, (pss_cons (ps_expr (pe_call (ok_asked_list T) (hr.mono (by decide)) (by rfl) T.g_asked_list T.F_asked_list.kp T.b_asked_list .nil (L2N.passes_call (L2N.takes_of rfl rfl rfl rfl) (fun _ _ _ _ h => h)) (pa_cons (pv 0) pa_nil)))
      (pss_one (ps_ret (pe_revL (pv 0))))), ?_⟩
    rcases h with ⟨a, ns, rfl, hs, hl, k⟩ | ⟨hb, k⟩
    · refine q_drop (ev_call (ea_cons (ev_var rfl) ea_nil) (v_asked_list (T := T) hs hl)) fun H1 e1 => ?_
      refine s_retL (el_is (el_rev (ev_var rfl) (ex_l e1 hs)) ?_) fun p H2 hp e2 h2 => k.go e1 hp e2 h2
      rw [List.map_reverse]
    · exact ⟨_, rfl, _, rfl, .inr ⟨hb, k⟩⟩
theorem v_mirrored {T : Tx K mg} {a : Addr} {ns : List Int} {H : Hp} (hs : SqL K H a (ns.map V.int)) (hl : RowLen ns.length) : SpL (sp_mirrored T) [.ref a] H (ns.reverse.map V.int) := fun _ e _ q _ => ⟨_, rfl, .inl ⟨a, ns, rfl, ex_l e hs, hl, q⟩⟩
end
end PA

set_option Elab.async false
set_option linter.all false
set_option maxRecDepth 100000
set_option maxHeartbeats 4000000
namespace PA
open PySem PySem.Spec PyProof.Rows L2 Evl
local macro_rules | `(tactic| walk_at "ev") => `(tactic| repeat' (first | (with_reducible exact ev_c) | (with_reducible refine' ev_var ?_) | (show _ = some (some _); rfl) | (with_reducible exact ea_nil) | (with_reducible refine' ea_cons ?_ ?_) | (with_reducible refine' ev_abs ?_) | (with_reducible refine' ev_op ?_ ?_ ?_) | (with_reducible exact rv_I0) | (exact rv_mulL (by decide)) | (exact rv_mulR (by decide)) | (exact rv_div (by decide)) | (exact rv_mod (by decide)) | (exact rv_pow (by decide)) | (with_reducible refine' ev_un ?_ ?_) | (with_reducible exact ru_neg) | (exact rv_eq rfl) | (exact rv_ne rfl) | (with_reducible refine' et_test ?_) | (with_reducible refine' et_B ?_) | (exact ev_c) | (exact rv_I0) | (exact ru_neg) | (exact ea_nil) | (refine' ea_cons ?_ ?_)))
section
variable {P : Program} {w : World} {K : PySem.W.Frag} {mg : Str → Option Value} {base : Heap}
/-! ### Can.shows, Barred.shows -/
def sp_Can_shows : Sp := fun vs H Q _ => ∃ (p : Addr) (n : Int), vs = [.ref p, .int n] ∧ RetV (.bl (decide (n % 4 < 2))) H Q
theorem ok_Can_shows (T : Tx K mg) : FnOk P w K mg base CX0 1 T.a_Can_shows T.d_Can_shows ["self", "last"] sp_Can_shows := by
  refine T.F_Can_shows.ok sc_Can_shows (fun vs H Q E h => ?_) (fun cdv A outer s H vs Q E hr h => ?_)
  · obtain ⟨p, n, rfl, _⟩ := h
    rfl
  · obtain ⟨p, n, rfl, k⟩ := h
    refine ⟨_, (pss_one (ps_ret (pe_cmpR op_lt (pe_op op_mod (pv 1) pe_int) pe_int (nomark _)))), ?_⟩
    exact s_ret (by walk_at "ev") fun H1 e1 => k H1 e1
theorem v_Can_shows {p : Addr} {n : Int} {H : Hp} : SpV sp_Can_shows [.ref p, .int n] H (.bl (decide (n % 4 < 2))) := fun _ _ _ q _ => ⟨p, n, rfl, q⟩
def sp_Barred_shows : Sp := fun vs H Q _ => ∃ (p : Addr) (n : Int), vs = [.ref p, .int n] ∧ RetV (.bl (!decide (n % 4 < 2))) H Q
theorem ok_Barred_shows (T : Tx K mg) : FnOk P w K mg base CX0 1 T.a_Barred_shows T.d_Barred_shows ["self", "last"] sp_Barred_shows := by
  refine T.F_Barred_shows.ok sc_Barred_shows (fun vs H Q E h => ?_) (fun cdv A outer s H vs Q E hr h => ?_)
  · obtain ⟨p, n, rfl, _⟩ := h
    rfl
  · obtain ⟨p, n, rfl, k⟩ := h
    refine ⟨_, (pss_one (ps_ret (pe_cmpR op_gt (pe_op op_mod (pv 1) pe_int) pe_int (nomark _)))), ?_⟩
    refine s_ret (ev_is (by walk_at "ev") ?_) fun H1 e1 => k H1 e1
    have : decide (1 < n % 4) = !decide (n % 4 < 2) := by
      by_cases h : n % 4 < 2
      · rw [decide_eq_true h, decide_eq_false (by omega)]; rfl
      · rw [decide_eq_false h, decide_eq_true (by omega)]; rfl
    rw [this]
theorem v_Barred_shows {p : Addr} {n : Int} {H : Hp} : SpV sp_Barred_shows [.ref p, .int n] H (.bl (!decide (n % 4 < 2))) := fun _ _ _ q _ => ⟨p, n, rfl, q⟩
end
end PA

set_option Elab.async false
set_option linter.all false
set_option maxRecDepth 100000
set_option maxHeartbeats 4000000
namespace PA
open PySem PySem.Spec PyProof.Rows L2 Evl
local macro_rules | `(tactic| walk_at "ev") => `(tactic| repeat' (first | (with_reducible exact ev_c) | (with_reducible refine' ev_var ?_) | (show _ = some (some _); rfl) | (with_reducible exact ea_nil) | (with_reducible refine' ea_cons ?_ ?_) | (with_reducible refine' ev_abs ?_) | (with_reducible refine' ev_op ?_ ?_ ?_) | (with_reducible exact rv_I0) | (exact rv_mulL (by decide)) | (exact rv_mulR (by decide)) | (exact rv_div (by decide)) | (exact rv_mod (by decide)) | (exact rv_pow (by decide)) | (with_reducible refine' ev_un ?_ ?_) | (with_reducible exact ru_neg) | (exact rv_eq rfl) | (exact rv_ne rfl) | (with_reducible refine' et_test ?_) | (with_reducible refine' et_B ?_) | (exact ev_c) | (exact rv_I0) | (exact ru_neg) | (exact ea_nil) | (refine' ea_cons ?_ ?_)))
section
variable {P : Program} {w : World} {K : PySem.W.Frag} {mg : Str → Option Value} {base : Heap}
/-! ### what can tells -/
/-- p is a new Can or a new Barred -/
def IsB (T : Tx K mg) (b : Bool) (p : Addr) (H : Hp) : Prop := ∃ dx, H p = some (.ins (if b then T.c_Can else T.c_Barred) dx [])
theorem IsB.ex {T : Tx K mg} {b : Bool} {p : Addr} {H H' : Hp} (e : Ex H H') (h : IsB T b p H) : IsB T b p H' := by
  obtain ⟨dx, h⟩ := h
  exact ⟨dx, e _ _ h⟩
theorem ev_isB {T : Tx K mg} {b r1 r0 : Bool} {p c : Addr} {σ : L2.St} {H : Hp} {ta : TE} (hv : Ev ta σ H (.ref p)) (h : IsB T b p H) (k1 : PySem.W.kitOne K (.ref T.c_Can) (.ref c) = some r1) (k0 : PySem.W.kitOne K (.ref T.c_Barred) (.ref c) = some r0) :
    Ev (tCB (rIsi K) (tCons ta (tCons (tC (.ref c)) tNil))) σ H (.bl (if b then r1 else r0)) := by
  obtain ⟨dx, h⟩ := h
  cases b with
  | true => exact ev_isi (ea_cons hv (ea_cons ev_c ea_nil)) (.own c) (T.i_Can.ty h) k1
  | false => exact ev_isi (ea_cons hv (ea_cons ev_c ea_nil)) (.own c) (T.i_Barred.ty h) k0
theorem ev_shw {T : Tx K mg} {b : Bool} {p : Addr} {n : Int} {σ : L2.St} {H : Hp} {ta ta' : TE} {t t' : TA} {E E' : XK} (hv : Ev ta σ H (.ref p)) (hv' : Ev ta' σ H (.ref p)) (h : IsB T b p H) (ha : EvA t σ H [.int n]) (ha' : EvA t' σ H [.int n]) :
    Ev (fun σ H Q => tMeth T.c_Can "shows" sp_Can_shows [] E ta t σ H Q ∨ tMeth T.c_Barred "shows" sp_Barred_shows [] E' ta' t' σ H Q) σ H (.bl (decide (n % 4 < 2) == b)) := by
  obtain ⟨dx, h⟩ := h
  cases b with
  | true => exact ev_is (ev_orL (ev_methV h hv rfl ha v_Can_shows)) (by simp)
  | false => exact ev_is (ev_orR (ev_methV h hv' rfl ha' v_Barred_shows)) (by simp)
theorem eq_can {T : Tx K mg} {n : Int} {σ : L2.St} {H : Hp} {t : TA} {E : XK} (ha : EvA t σ H [.int n]) (h1 : 1 ≤ n) : EvQ (tCall (sp_can T) [] E t) σ H (fun v H => ∃ p, v = .ref p ∧ IsB T (decide (n % 4 < 2)) p H) := fun H1 e Q q => by
  by_cases hb : n % 4 < 2
  · rw [decide_eq_true hb] at q
    exact ei_call ha (v_can1 h1 hb) H1 e _ fun p dx H2 _ e2 h2 => q _ H2 e2 ⟨p, rfl, dx, h2⟩
  · rw [decide_eq_false hb] at q
    exact ei_call ha (v_can0 h1 hb) H1 e _ fun p dx H2 _ e2 h2 => q _ H2 e2 ⟨p, rfl, dx, h2⟩
end
end PA

set_option Elab.async false
set_option linter.all false
set_option maxRecDepth 100000
set_option maxHeartbeats 4000000
namespace PA
open PySem PySem.Spec PyProof.Rows L2 Evl LamX NdefX
local macro_rules | `(tactic| walk_at "ev") => `(tactic| repeat' (first | (with_reducible exact ev_c) | (with_reducible refine' ev_var ?_) | (show _ = some (some _); rfl) | (with_reducible exact ea_nil) | (with_reducible refine' ea_cons ?_ ?_) | (with_reducible refine' ev_abs ?_) | (with_reducible refine' ev_op ?_ ?_ ?_) | (with_reducible exact rv_I0) | (exact rv_mulL (by decide)) | (exact rv_mulR (by decide)) | (exact rv_div (by decide)) | (exact rv_mod (by decide)) | (exact rv_pow (by decide)) | (with_reducible refine' ev_un ?_ ?_) | (with_reducible exact ru_neg) | (exact rv_eq rfl) | (exact rv_ne rfl) | (with_reducible refine' et_test ?_) | (with_reducible refine' et_B ?_) | (exact ev_c) | (exact rv_I0) | (exact ru_neg) | (exact ea_nil) | (refine' ea_cons ?_ ?_)))
section
variable {P : Program} {w : World} {K : PySem.W.Frag} {mg : Str → Option Value} {base : Heap}
theorem dint (a b : Int) : decide (V.int a = V.int b) = decide (a = b) := decide_eq_decide.mpr ⟨fun h => V.int.inj h, fun h => by rw [h]⟩
theorem rv_eqB {H : Hp} {a b : Addr} {ns ms : List Bool} (ha : SqL K H a (ns.map V.bl)) (hb : SqL K H b (ms.map V.bl)) : RV (rEqD K) (.ref a) (.ref b) H (.bl (decide (ns = ms))) := fun H1 e Q q =>
  ⟨_, _, .lst (ex_l e ha) (dpAll_bools ns), .lst (ex_l e hb) (dpAll_bools ms), shp_bools _, shp_bools _, by
    rw [show PyData.eqv (.list (ns.map PyData.bool)) (.list (ms.map PyData.bool)) = decide (ns = ms) from eqvAll_bools ns ms]
    exact q H1 (Ex.refl H1)⟩
/-! ### _law_refused -/
/-- the class at C is the d-th one -/
def Refd (T : Tx K mg) (C : Addr) (d : Int) : Prop := (C = T.c_BadLast ∧ d = 0) ∨ (C = T.c_NoRow ∧ d = 1) ∨ (C = T.c_BadNumber ∧ d = 2) ∨ (C = T.c_BadPlace ∧ d = 3) ∨ (C = T.c_BadRow ∧ d = 4)
abbrev isr (K : PySem.W.Frag) (C a : Addr) (c : V) : TE := tCB (rIsG K (.ref C) none a) (tCons (tVar 3) (tCons (tC c) tNil))
theorem suiteR (T : Tx K mg) {C a : Addr} {σ : L2.St} {H : Hp} {D : Ends} {d : Int} {b0 b1 b2 b3 b4 : Bool} (hC : ExcC K C) (k0 : PySem.W.kitOne K (.ref C) (.ref T.c_BadLast) = some b0) (k1 : PySem.W.kitOne K (.ref C) (.ref T.c_NoRow) = some b1) (k2 : PySem.W.kitOne K (.ref C) (.ref T.c_BadNumber) = some b2)
    (k3 : PySem.W.kitOne K (.ref C) (.ref T.c_BadPlace) = some b3) (k4 : PySem.W.kitOne K (.ref C) (.ref T.c_BadRow) = some b4) (kv : PySem.W.kitOne K (.ref C) (.type "ValueError") = some true) (hs : ∃ x0 x1 x4 x5, σ = [x0, x1, some (.int d), some (.ref a), x4, x5])
    (hb : [b0, b1, b2, b3, b4] = [decide (((0 : Nat) : Int) = d), decide (((1 : Nat) : Int) = d), decide (((2 : Nat) : Int) = d), decide (((3 : Nat) : Int) = d), decide (((4 : Nat) : Int) = d)]) (k : ∀ H2, Ex H H2 → D.rt (.bl true) H2) :
    tSeq (tAsg (tLst (tCons (isr K C a (.ref T.c_BadLast)) (tCons (isr K C a (.ref T.c_NoRow)) (tCons (isr K C a (.ref T.c_BadNumber)) tNil)))) (gName 4)) (tSeq (tAsg (tOp rCat (tVar 4) (tLst (tCons (isr K C a (.ref T.c_BadPlace)) (tCons (isr K C a (.ref T.c_BadRow)) tNil)))) (gName 4))
      (tRet (tAndV (tOp (rEqD K) (tVar 4) (tLc (iRng1 (tCons (tC (.int 5)) tNil)) (gName 5) tYes (tOp rEq (tVar 5) (tVar 2)) [5])) (isr K C a (.ty "ValueError"))))) D σ H := by
  obtain ⟨x0, x1, x4, x5, rfl⟩ := hs
  refine q_asgL (el_lst (ea_cons (ev_isG hC (ev_var rfl) ev_c (fun _ h => h) k0) (ea_cons (ev_isG hC (ev_var rfl) ev_c (fun _ h => h) k1) (ea_cons (ev_isG hC (ev_var rfl) ev_c (fun _ h => h) k2) ea_nil))) (by show 3 ≤ 100000; decide)) fun p H1 hp e1 h1 => ?_
  refine q_asgL (el_cat (at_old (ev_var rfl) h1) (at_new (el_lst (ea_cons (ev_isG hC (ev_var rfl) ev_c (fun _ h => h) k3) (ea_cons (ev_isG hC (ev_var rfl) ev_c (fun _ h => h) k4) ea_nil)) (by show 2 ≤ 100000; decide))) (by show 5 ≤ 100000; decide)) fun p2 H2 hp2 e2 h2 => ?_
  have h2 : H2 p2 = some (.lst ([b0, b1, b2, b3, b4].map V.bl)) := h2
  rw [hb] at h2
  refine s_ret (ev_is (ev_andV (ev_opL (ev_var rfl) (xs := [decide (((0 : Nat) : Int) = d), decide (((1 : Nat) : Int) = d), decide (((2 : Nat) : Int) = d), decide (((3 : Nat) : Int) = d), decide (((4 : Nat) : Int) = d)].map V.bl) (el_lcR1 (n := 5) (fun _ => true) (fun i => .bl (decide ((i : Int) = d))) (by walk_at "ev") (by decide) (fun _ => rfl) (fun _ _ _ _ => et_yes) fun i H3 e3 hi _ => ev_is (ev_op (ev_var rfl) (ev_var rfl) (rv_eq rfl)) (by rw [dint])) fun q H3 hq e3 => rv_eqB (ex_l e3 (sq_of h2)) (sq_of hq)) fun _ => ev_isG hC (ev_var rfl) ev_c (fun _ h => h) kv) ?_) fun H3 e3 => k H3 ((e1.trans e2).trans e3)
  rw [decide_eq_true rfl]
  rfl
/-- the lambda at f, asked with v, lets out an error of the class at C -/
def Asks (P : Program) (w : World) (base : Heap) (T : Tx K mg) (f : Addr) (v : V) (C : Addr) (h : Heap) (H : Hp) : Prop := ∃ (F : LF) (ps fr : List Str) (ws : List (Option V)) (sp : List (Option V) → Sp), H f = some (LamO f F) ∧ H F.c = some (CodeO F.c F.qual) ∧
  LOk P w K mg base (L2N.CX P w) 6 f F ps fr sp ∧ CellsAt F.cl fr ws h H ∧ ∀ Q E, Err C H E → sp ws [v] H Q E
def sp__law_refused (P : Program) (w : World) (base : Heap) (T : Tx K mg) (h : Heap) : Sp := fun vs H Q _ => ∃ (f : Addr) (v : V) (d : Int) (C : Addr), vs = [.ref f, v, .int d] ∧ Asks P w base T f v C h H ∧ Refd T C d ∧ RetV (.bl true) H Q
theorem ok__law_refused (T : Tx K mg) : FnOkS P w K mg base CX0 7 T.a__law_refused T.d__law_refused ["_law_ask", "_law_thing", "_law_due"] (sp__law_refused P w base T) := by
  refine okS T.F__law_refused sc__law_refused (fun h vs H Q E h => ?_) (fun cdv A outer s H vs Q E hr h => ?_)
  · obtain ⟨f, v, d, C, rfl, _⟩ := h
    rfl
  · obtain ⟨f, v, d, C, rfl, ⟨F, ps, fr, ws, sp, hf, hc, hL, hC, hsp⟩, hd, k⟩ := h
    refine ⟨_, (pss_cons (L2N.ps_try_as (i := 3) (Wout := fun _ _ _ _ => False) rfl rfl sc__law_refused.nd rfl rfl ⟨rfl, by decide, Or.inl T.g_PairError⟩ takes0N
      (fun W pn xe tk _ => (pss_one (ps_expr (pe_callV (CX := L2N.CX P w) (P := P) (w := w) (K := K) (mg := mg) (base := base) (h0 := s.heap) (H0 := H) rfl rfl rfl rfl rfl rfl rfl (j := 6) (k := 6) (i := 0) (hr.mono (by decide)) (Nat.le_refl _) rfl (fun σ => L2N.passAt tk σ) rfl (Or.inl rfl) (pa_cons (pv 1) pa_nil)))))
      (fun a oe cls d pn hz hf => (pss_cons (ps_set (i := 4) sc__law_refused.nd rfl (.inl rfl) (pe_lst (pa_cons (pe_callB (r := rIsG K cls d a) (call_isG hz.zc hf) (by rfl) T.m_isinstance bt_isinstance (pa_cons (pv 3) (pa_cons (pe_glob (v := .ref T.c_BadLast) (by rfl) T.g_BadLast rfl) pa_nil))) (pa_cons (pe_callB (r := rIsG K cls d a) (call_isG hz.zc hf) (by rfl) T.m_isinstance bt_isinstance (pa_cons (pv 3) (pa_cons (pe_glob (v := .ref T.c_NoRow) (by rfl) T.g_NoRow rfl) pa_nil))) (pa_cons (pe_callB (r := rIsG K cls d a) (call_isG hz.zc hf) (by rfl) T.m_isinstance bt_isinstance (pa_cons (pv 3) (pa_cons (pe_glob (v := .ref T.c_BadNumber) (by rfl) T.g_BadNumber rfl) pa_nil))) pa_nil)))))
      (pss_cons (ps_set (i := 4) sc__law_refused.nd rfl (.inl rfl) (pe_op op_cat (pv 4) (pe_lst (pa_cons (pe_callB (r := rIsG K cls d a) (call_isG hz.zc hf) (by rfl) T.m_isinstance bt_isinstance (pa_cons (pv 3) (pa_cons (pe_glob (v := .ref T.c_BadPlace) (by rfl) T.g_BadPlace rfl) pa_nil))) (pa_cons (pe_callB (r := rIsG K cls d a) (call_isG hz.zc hf) (by rfl) T.m_isinstance bt_isinstance (pa_cons (pv 3) (pa_cons (pe_glob (v := .ref T.c_BadRow) (by rfl) T.g_BadRow rfl) pa_nil))) pa_nil)))))
      (pss_one (ps_ret (pe_and (pe_cmpR (r := rEqD K) (op_eqD hr.units) (pv 4) (pe_lcH (own := [("_law_kind", 5)]) (hot_suite hz hf) sc__law_refused.nd (L2H.pi_range1H (by rfl) T.m_range (pa_cons pe_int pa_nil)) (blkOk_by (own := [("_law_kind", 5)]) (N := N__law_refused) (sc := defScope s__law_refused) (by decide +kernel)) (fun _ _ _ _ _ => (pg_name (i := 5) sc__law_refused.nd rfl (Or.inl rfl))) (fun _ _ _ _ _ => pts_nil) (fun _ _ _ _ _ => (pe_cmpR op_eq (pv 5) (pv 2) (nomark _)))) (nomark _)) (pe_one (pe_callB (r := rIsG K cls d a) (call_isG hz.zc hf) (by rfl) T.m_isinstance bt_isinstance (pa_cons (pv 3) (pa_cons (pe_bltn (v := .ty "ValueError") (by rfl) T.m_ValueError bt_ValueError rfl) pa_nil)))))))))))
      (pss_one (ps_ret pe_bl))), ?_⟩
    refine ⟨f, F, ps, fr, ws, sp, rfl, hf, hL, hC, v, rfl, hf, hc, hsp _ _ fun H1 e1 => ?_⟩
    rcases hd with ⟨rfl, rfl⟩ | ⟨rfl, rfl⟩ | ⟨rfl, rfl⟩ | ⟨rfl, rfl⟩ | ⟨rfl, rfl⟩
    · exact ⟨true, T.em_BadLast, fun _ a0 _ => suiteR T T.y_BadLast T.ke_BadLast_BadLast T.ke_BadLast_NoRow T.ke_BadLast_BadNumber T.ke_BadLast_BadPlace T.ke_BadLast_BadRow T.kv_BadLast ⟨_, _, _, _, rfl⟩ (by decide) fun H2 e2 => k H2 (e1.trans e2), fun z => nomatch z⟩
    · exact ⟨true, T.em_NoRow, fun _ a0 _ => suiteR T T.y_NoRow T.ke_NoRow_BadLast T.ke_NoRow_NoRow T.ke_NoRow_BadNumber T.ke_NoRow_BadPlace T.ke_NoRow_BadRow T.kv_NoRow ⟨_, _, _, _, rfl⟩ (by decide) fun H2 e2 => k H2 (e1.trans e2), fun z => nomatch z⟩
    · exact ⟨true, T.em_BadNumber, fun _ a0 _ => suiteR T T.y_BadNumber T.ke_BadNumber_BadLast T.ke_BadNumber_NoRow T.ke_BadNumber_BadNumber T.ke_BadNumber_BadPlace T.ke_BadNumber_BadRow T.kv_BadNumber ⟨_, _, _, _, rfl⟩ (by decide) fun H2 e2 => k H2 (e1.trans e2), fun z => nomatch z⟩
    · exact ⟨true, T.em_BadPlace, fun _ a0 _ => suiteR T T.y_BadPlace T.ke_BadPlace_BadLast T.ke_BadPlace_NoRow T.ke_BadPlace_BadNumber T.ke_BadPlace_BadPlace T.ke_BadPlace_BadRow T.kv_BadPlace ⟨_, _, _, _, rfl⟩ (by decide) fun H2 e2 => k H2 (e1.trans e2), fun z => nomatch z⟩
    · exact ⟨true, T.em_BadRow, fun _ a0 _ => suiteR T T.y_BadRow T.ke_BadRow_BadLast T.ke_BadRow_NoRow T.ke_BadRow_BadNumber T.ke_BadRow_BadPlace T.ke_BadRow_BadRow T.kv_BadRow ⟨_, _, _, _, rfl⟩ (by decide) fun H2 e2 => k H2 (e1.trans e2), fun z => nomatch z⟩
/-- the same, told by the names that the running def holds -/
def sqR (T : Tx K mg) (X : Cx) (σ : L2.St) : Sp := fun vs H Q _ => ∃ (f : Addr) (v : V) (d : Int) (C : Addr) (F : LF) (ps fr : List Str) (js : List Nat) (sp : List (Option V) → Sp), vs = [.ref f, v, .int d] ∧ H f = some (LamO f F) ∧ H F.c = some (CodeO F.c F.qual) ∧
  LOk X.prog X.w K mg X.base (L2N.CX X.prog X.w) 6 f F ps fr sp ∧ (X.Ok → Caps X F.cl fr js) ∧ (∀ Q E, Err C H E → sp (js.map (slotAt σ)) [v] H Q E) ∧ Refd T C d ∧ RetV (.bl true) H Q
theorem ref_hs {X : Cx} (T : Tx K mg) (pins : List (Addr × Obj)) (σ : L2.St) (H : Hp) (s : Shared) (vs : List V) (Q : VK) (E : XK) (I : Inv X pins σ H s) (h : sqR T X σ vs H Q E) : sp__law_refused X.prog X.w X.base T s.heap vs H Q E := by
  obtain ⟨f, v, d, C, F, ps, fr, js, sp, e, hf, hc, hL, cp, hsp, hd, k⟩ := h
  exact ⟨f, v, d, C, e, ⟨F, ps, fr, _, sp, hf, hc, hL, cells_of I (cp I.ok), hsp⟩, hd, k⟩
/-- _law_refused(a lambda made here, what has Pv, d) -/
theorem eb_ref (T : Tx K mg) {X : Cx} {σ : L2.St} {H : Hp} {t2 t3 : TE} {E : XK} {q : Str} {Pt : Addr} {mk : Addr → LF} {Pv : V → Hp → Prop} {d : Int} {ps fr : List Str} {js : List Nat} {sp : List (Option V) → Sp} (C : Addr) (tab : TabS H Pt q) (hq : ∀ c', (mk c').qual = q) (hc : ∀ c', (mk c').c = c')
    (hL : ∀ f c', LOk X.prog X.w K mg X.base (L2N.CX X.prog X.w) 6 f (mk c') ps fr sp) (cp : ∀ c', X.Ok → Caps X (mk c').cl fr js) (st : Stab Pv) (h2 : ∀ H1, ExB Pt H H1 → EvQ t2 σ H1 Pv) (h3 : ∀ H1, Ev t3 σ H1 (.int d))
    (hsp : ∀ v H1, Pv v H1 → ∀ Q E, Err C H1 E → sp (js.map (slotAt σ)) [v] H1 Q E) (hd : Refd T C d) : EvB Pt q (tCallF (sqR T X) E (tCons (tLamV Pt q mk) (tCons t2 (tCons t3 tNil)))) σ H (.bl true) := fun Q k =>
  ⟨tab, fun f c' H1 e1 t1 hf h1 hcd => h2 H1 e1 H1 (Ex.refl _) _ fun v H2 e2 hv => h3 H2 H2 (Ex.refl _) _ fun H3 e3 =>
    ⟨f, v, d, C, mk c', ps, fr, js, sp, rfl, (e2.trans e3) _ _ h1, by rw [hc, hq]; exact (e2.trans e3) _ _ hcd, hL f c', cp c', hsp v H3 (st _ _ _ e3 hv), hd, fun H4 e4 => k H4 ((e1.trans (ExB.of (e2.trans e3))).trans (ExB.of e4)) (tabS_ex t1 ((e2.trans e3).trans e4))⟩⟩
end
end PA

set_option Elab.async false
set_option linter.all false
set_option maxRecDepth 100000
set_option maxHeartbeats 4000000
namespace PA
open PySem PySem.Spec PyProof.Rows L2 Evl
local macro_rules | `(tactic| walk_at "ev") => `(tactic| repeat' (first | (with_reducible exact ev_c) | (with_reducible refine' ev_var ?_) | (show _ = some (some _); rfl) | (with_reducible exact ea_nil) | (with_reducible refine' ea_cons ?_ ?_) | (with_reducible refine' ev_abs ?_) | (with_reducible refine' ev_op ?_ ?_ ?_) | (with_reducible exact rv_I0) | (exact rv_mulL (by decide)) | (exact rv_mulR (by decide)) | (exact rv_div (by decide)) | (exact rv_mod (by decide)) | (exact rv_pow (by decide)) | (with_reducible refine' ev_un ?_ ?_) | (with_reducible exact ru_neg) | (exact rv_eq rfl) | (exact rv_ne rfl) | (with_reducible refine' et_test ?_) | (with_reducible refine' et_B ?_) | (exact ev_c) | (exact rv_I0) | (exact ru_neg) | (exact ea_nil) | (refine' ea_cons ?_ ?_)))
section
variable {P : Program} {w : World} {K : PySem.W.Frag} {mg : Str → Option Value} {base : Heap}
/-! ### no rows, no numbers -/
theorem badV_stab {B : Int → Prop} : Stab (fun v H => BadV K H v B) := fun _ _ _ e h => h.ex e
theorem noRow_stab : Stab (fun v H => NoRowV K H v) := fun _ _ _ e h => h.ex e
theorem num_stab {b : Bool} : Stab (fun v H => Num K H v b) := fun _ _ _ e h => h.ex e
theorem kl_none : kitB "NoneType" "list" = some false := by decide +kernel
theorem kl_tuple : kitB "tuple" "list" = some false := by decide +kernel
theorem kl_str : kitB "str" "list" = some false := by decide +kernel
theorem kl_int : kitB "int" "list" = some false := by decide +kernel
theorem kl_dict : kitB "dict" "list" = some false := by decide +kernel
section
variable {σ : L2.St} {H : Hp} {te : TE} {xs : List V}
theorem nr_len (h : EvL te σ H xs) (hl : ¬ RowLen xs.length) : EvQ te σ H (fun v H => NoRowV K H v) := eq_lst h fun p H1 h1 => .inr (.inl ⟨p, xs, rfl, sq_of h1, hl⟩)
theorem nr_mix {n : Nat} {f : Nat → Bool} (h : EvLI te σ H (fun i v H => Num K H v (f i)) n) (hl : RowLen n) (hf : ∃ i, i < n ∧ f i = false) : EvQ te σ H (fun v H => NoRowV K H v) := fun H1 e Q q =>
  h H1 e _ fun vs p H2 _ e2 h2 hn hv => q _ H2 e2 (.inr (.inr ⟨p, vs, f, rfl, sq_of h2, by rw [hn]; exact hl, hv, by rw [hn]; exact hf⟩))
theorem nq_none : EvQ (tC .non) σ H (fun v H => Num K H v false) := eq_val ev_c fun _ _ => ⟨"NoneType", .base .non, num_none⟩
theorem nq_str {s : Str} : EvQ (tC (.str s)) σ H (fun v H => Num K H v false) := eq_val ev_c fun _ _ => ⟨"str", .base (.str s), num_str⟩
theorem nq_bool {b : Bool} : EvQ (tC (.bl b)) σ H (fun v H => Num K H v false) := eq_val ev_c fun _ _ => ⟨"bool", .base (.bl b), num_bool⟩
theorem nq_int {z : Int} : EvQ (tC (.int z)) σ H (fun v H => Num K H v true) := eq_val ev_c fun _ _ => Num.int z
theorem nq_lst (h : EvL te σ H xs) : EvQ te σ H (fun v H => Num K H v false) := eq_lst h fun _ _ h1 => ⟨"list", .base (.lst h1), num_list⟩
theorem nq_tup (h : EvU te σ H xs) : EvQ te σ H (fun v H => Num K H v false) := eq_tup h fun _ _ h1 => ⟨"tuple", .base (.tup h1), num_tuple⟩
theorem nq_dict : EvQ tDNewK σ H (fun v H => Num K H v false) := eq_dnew fun _ _ h1 => ⟨"dict", .base (.dK h1), num_dict⟩
theorem nr_zeros {ta tb : TE} (k : Nat) (h : EvL ta σ H [.int 0]) (hb : Ev tb σ H (.int (k : Int))) (hk : k ≤ 100000) (hl : ¬ RowLen k) : EvQ (tOp rRep ta tb) σ H (fun v H => NoRowV K H v) :=
  nr_len (xs := List.replicate k (.int 0)) (el_is (el_rep h hb (by omega) (by omega) (by show 1 * _ ≤ 100000; omega)) (by rw [show ((k : Int)).toNat = k by omega]; simp)) (by rw [List.length_replicate]; exact hl)
/-- two things, one of which is no whole number -/
theorem nr_two {ta tb : TE} {a b : Bool} (ha : EvQ ta σ H (fun v H => Num K H v a)) (hb : EvQ tb σ H (fun v H => Num K H v b)) (h : (a && b) = false) : EvQ (tLst (tCons ta (tCons tb tNil))) σ H (fun v H => NoRowV K H v) := by
  refine nr_mix (n := 2) (f := fun i => if i = 0 then a else b) (eli_lst (fun _ => num_stab) (eai_cons num_stab ha (eai_cons num_stab hb eai_nil)) (by decide)) ⟨by decide, by decide, rfl⟩ ?_
  cases a with
  | false => exact ⟨0, by decide, rfl⟩
  | true => exact ⟨1, by decide, h⟩
end
end
end PA

set_option Elab.async false
set_option linter.all false
set_option maxRecDepth 100000
set_option maxHeartbeats 4000000
namespace PA
open PySem PySem.Spec PyProof.Rows L2 Evl
local macro_rules | `(tactic| walk_at "ev") => `(tactic| repeat' (first | (with_reducible exact ev_c) | (with_reducible refine' ev_var ?_) | (show _ = some (some _); rfl) | (with_reducible exact ea_nil) | (with_reducible refine' ea_cons ?_ ?_) | (with_reducible refine' ev_abs ?_) | (with_reducible refine' ev_op ?_ ?_ ?_) | (with_reducible exact rv_I0) | (exact rv_mulL (by decide)) | (exact rv_mulR (by decide)) | (exact rv_div (by decide)) | (exact rv_mod (by decide)) | (exact rv_pow (by decide)) | (with_reducible refine' ev_un ?_ ?_) | (with_reducible exact ru_neg) | (exact rv_eq rfl) | (exact rv_ne rfl) | (with_reducible refine' et_test ?_) | (with_reducible refine' et_B ?_) | (exact ev_c) | (exact rv_I0) | (exact ru_neg) | (exact ea_nil) | (refine' ea_cons ?_ ?_)))
section
variable {P : Program} {w : World} {K : PySem.W.Frag} {mg : Str → Option Value} {base : Heap}
theorem dec_int (a b : Int) : decide (V.int a = V.int b) = decide (a = b) := decide_eq_decide.mpr ⟨fun h => V.int.inj h, fun h => by rw [h]⟩
/-! ### _law_plain -/
/-- a whole number, or a list or tuple of such as sp0 finds plain -/
def spPl (K : PySem.W.Frag) (sp0 : Sp) : Sp := fun vs H Q _ => (∃ n : Int, vs = [.int n] ∧ RetV (.bl true) H Q) ∨ ∃ (a : Addr) (xs : List V), vs = [.ref a] ∧ (SqL K H a xs ∨ SqT K H a xs) ∧ xs.length ≤ 1000 ∧ (∀ x ∈ xs, SpV sp0 [x] H (.bl true)) ∧ RetV (.bl true) H Q
theorem plain_of (T : Tx K mg) {k : Nat} {sp0 : Sp} (G : FnOk P w K mg base CX0 k T.a__law_plain T.d__law_plain ["_law_thing"] sp0) : FnOk P w K mg base CX0 (k + 1) T.a__law_plain T.d__law_plain ["_law_thing"] (spPl K sp0) := by
  refine T.F__law_plain.ok sc__law_plain (fun vs H Q E h => ?_) (fun cdv A outer s H vs Q E hr h => ?_)
  · rcases h with ⟨n, rfl, _⟩ | ⟨a, xs, rfl, _⟩ <;> rfl
  · refine ⟨_, (pss_cons (ps_if (PW.pt (pw_or (pt_val (pe_callB (r := rIsi K) call_isi (by rfl) T.m_isinstance bt_isinstance (pa_cons (pv 0) (pa_cons (pe_bltn (v := .ty "list") (by rfl) T.m_list bt_list rfl) pa_nil)))) (pw_or1 (pt_val (pe_callB (r := rIsi K) call_isi (by rfl) T.m_isinstance bt_isinstance (pa_cons (pv 0) (pa_cons (pe_bltn (v := .ty "tuple") (by rfl) T.m_tuple bt_tuple rfl) pa_nil))))))) (pss_one (ps_ret (pe_callB (r := rAll K) (cr_all rfl) (by rfl) T.m_all bt_all (pa_cons (PE.or (pe_lc (own := [("_law_one", 1)]) (by rfl) sc__law_plain.nd (pi_list (pv 0)) (blkOk_by (own := [("_law_one", 1)]) (N := N__law_plain) (sc := defScope s__law_plain) (by decide +kernel)) (fun _ _ _ _ _ => (pg_name (i := 1) sc__law_plain.nd rfl (Or.inl rfl))) (fun _ _ _ _ _ => pts_nil) (fun _ _ _ _ _ => (pe_call G hr (by rfl) T.g__law_plain T.F__law_plain.kp T.b__law_plain .nil pass0 (pa_cons (pv 1) pa_nil)))) (pe_lc (own := [("_law_one", 1)]) (by rfl) sc__law_plain.nd (pi_tup (pv 0)) (blkOk_by (own := [("_law_one", 1)]) (N := N__law_plain) (sc := defScope s__law_plain) (by decide +kernel)) (fun _ _ _ _ _ => (pg_name (i := 1) sc__law_plain.nd rfl (Or.inl rfl))) (fun _ _ _ _ _ => pts_nil) (fun _ _ _ _ _ => (pe_call G hr (by rfl) T.g__law_plain T.F__law_plain.kp T.b__law_plain .nil pass0 (pa_cons (pv 1) pa_nil))))) pa_nil)))) pss_nil)
      (pss_one (ps_ret (pe_or (pe_cmpR op_isN (pv 0) pe_non (nomark _)) (pe_or (pe_callB (r := rIsi K) call_isi (by rfl) T.m_isinstance bt_isinstance (pa_cons (pv 0) (pa_cons (pe_bltn (v := .ty "str") (by rfl) T.m_str bt_str rfl) pa_nil))) (pe_one (pe_and (pe_callB (r := rIsi K) call_isi (by rfl) T.m_isinstance bt_isinstance (pa_cons (pv 0) (pa_cons (pe_bltn (v := .ty "int") (by rfl) T.m_int bt_int rfl) pa_nil))) (pe_one (pe_not (pe_callB (r := rIsi K) call_isi (by rfl) T.m_isinstance bt_isinstance (pa_cons (pv 0) (pa_cons (pe_bltn (v := .ty "bool") (by rfl) T.m_bool bt_bool rfl) pa_nil)))))))))))), ?_⟩
    rcases h with ⟨n, rfl, kq⟩ | ⟨a, xs, rfl, hs, hl, hx, kq⟩
    · have is : ∀ {H1 : Hp} (ty : String) (b : Bool), kitB "int" ty = some b → Ev (tCB (rIsi K) (tCons (tVar 0) (tCons (tC (.ty ty)) tNil))) [some (.int n), none] H1 (.bl b) := fun ty b hk => ev_isi (ea_cons (ev_var rfl) (ea_cons ev_c ea_nil)) (.ty ty) (.base (.int n)) (kit_ty hk)
      refine q_when (b := false) (et_is (et_or (et_B (is "list" false (by decide +kernel))) fun _ => et_B (is "tuple" false (by decide +kernel))) rfl) (fun z => nomatch z) fun _ H1 e1 => ?_
      exact s_ret (ev_is (ev_orV (ev_op (ev_var rfl) ev_c rv_isN) fun _ => ev_orV (is "str" false (by decide +kernel)) fun _ => ev_andV (is "int" true (by decide +kernel)) fun _ => ev_notV (is "bool" false (by decide +kernel))) rfl) fun H2 e2 => kq H2 (e1.trans e2)
    · rcases hs with hs | hs
      · refine q_when (b := true) (et_is (b := true) (et_or (a := true) (b := true) (et_B (ev_isi (ea_cons (ev_var rfl) (ea_cons ev_c ea_nil)) (.ty "list") (tyx_sq hs) (kit_ty (r := true) (by decide +kernel)))) fun z => nomatch z) rfl) (fun _ H1 e1 => ?_) fun z => nomatch z
        refine s_ret (ev_cbOrL (ev_allT (n := xs.length) (el_lcL (fun _ => true) (fun i => .bl true) (ev_var rfl) (ex_l e1 hs) (by omega) (fun _ => rfl) (fun _ _ _ _ _ => et_yes) fun i x H2 e2 hi _ => ev_call (vs := [x]) (ea_cons (ev_var rfl) ea_nil) (SpV_ex (hx x (List.mem_of_getElem? hi)) (e1.trans e2))))) fun H2 e2 => kq H2 (e1.trans e2)
      · refine q_when (b := true) (et_is (b := true) (et_or (a := false) (b := true) (et_B (ev_isi (ea_cons (ev_var rfl) (ea_cons ev_c ea_nil)) (.ty "list") (tyx_st hs) (kit_ty (r := false) (by decide +kernel)))) fun _ => et_B (ev_isi (ea_cons (ev_var rfl) (ea_cons ev_c ea_nil)) (.ty "tuple") (tyx_st hs) (kit_ty (r := true) (by decide +kernel)))) rfl) (fun _ H1 e1 => ?_) fun z => nomatch z
        refine s_ret (ev_cbOrR (ev_allT (n := xs.length) (el_lcT (fun _ => true) (fun i => .bl true) (ev_var rfl) (ex_t e1 hs) (by omega) (fun _ => rfl) (fun _ _ _ _ _ => et_yes) fun i x H2 e2 hi _ => ev_call (vs := [x]) (ea_cons (ev_var rfl) ea_nil) (SpV_ex (hx x (List.mem_of_getElem? hi)) (e1.trans e2))))) fun H2 e2 => kq H2 (e1.trans e2)
def sp__law_plain (K : PySem.W.Frag) : Sp := spPl K (spPl K fun _ _ _ _ => False)
theorem ok__law_plain (T : Tx K mg) : FnOk P w K mg base CX0 2 T.a__law_plain T.d__law_plain ["_law_thing"] (sp__law_plain K) := plain_of T (plain_of T (k := 0) ⟨fun _ _ _ _ h => h.elim, fun _ _ _ _ _ _ _ _ _ _ _ _ _ h => h.elim⟩)
theorem v_plainL {a : Addr} {ns : List Int} {H : Hp} (hs : SqL K H a (ns.map V.int)) (hl : ns.length ≤ 1000) : SpV (sp__law_plain K) [.ref a] H (.bl true) := fun _ e _ q _ => .inr ⟨a, _, rfl, .inl (ex_l e hs), by rw [List.length_map]; exact hl, fun x hx => by
  obtain ⟨n, _, rfl⟩ := List.mem_map.mp hx
  exact fun _ _ _ q _ => .inl ⟨n, rfl, q⟩, q⟩
theorem v_plainT {a : Addr} {ns : List Int} {H : Hp} (hs : SqT K H a (ns.map V.int)) (hl : ns.length ≤ 1000) : SpV (sp__law_plain K) [.ref a] H (.bl true) := fun _ e _ q _ => .inr ⟨a, _, rfl, .inr (ex_t e hs), by rw [List.length_map]; exact hl, fun x hx => by
  obtain ⟨n, _, rfl⟩ := List.mem_map.mp hx
  exact fun _ _ _ q _ => .inl ⟨n, rfl, q⟩, q⟩
/-! ### _law_truths -/
def sp__law_truths (K : PySem.W.Frag) : Sp := fun vs H Q _ => ∃ (a : Addr) (b : Bool), vs = [.ref a] ∧ SqL K H a [.bl b] ∧ RetV (.bl true) H Q
theorem ok__law_truths (T : Tx K mg) : FnOk P w K mg base CX0 1 T.a__law_truths T.d__law_truths ["_law_things"] (sp__law_truths K) := by
  refine T.F__law_truths.ok sc__law_truths (fun vs H Q E h => ?_) (fun cdv A outer s H vs Q E hr h => ?_)
  · obtain ⟨a, b, rfl, _⟩ := h
    rfl
  · obtain ⟨a, b, rfl, hs, k⟩ := h
    refine ⟨_, (pss_one (ps_ret (pe_callB (r := rAll K) (cr_all rfl) (by rfl) T.m_all bt_all (pa_cons (pe_lc (own := [("_law_one", 1)]) (by rfl) sc__law_truths.nd (pi_list (pv 0)) (blkOk_by (own := [("_law_one", 1)]) (N := N__law_truths) (sc := defScope s__law_truths) (by decide +kernel)) (fun _ _ _ _ _ => (pg_name (i := 1) sc__law_truths.nd rfl (Or.inl rfl))) (fun _ _ _ _ _ => pts_nil) (fun _ _ _ _ _ => (pe_callB (r := rIsi K) call_isi (by rfl) T.m_isinstance bt_isinstance (pa_cons (pv 1) (pa_cons (pe_bltn (v := .ty "bool") (by rfl) T.m_bool bt_bool rfl) pa_nil))))) pa_nil)))), ?_⟩
    refine s_ret (ev_allT (n := 1) (el_lcL (xs := [.bl b]) (fun _ => true) (fun i => .bl true) (ev_var rfl) hs (by show 1 ≤ 40000; decide) (fun _ => rfl) (fun _ _ _ _ _ => et_yes) fun i x H2 e2 hi _ => ?_)) k
    match i, hi with
    | 0, hi =>
      obtain rfl : V.bl b = x := Option.some.inj hi
      exact ev_isi (ea_cons (ev_var rfl) (ea_cons ev_c ea_nil)) (.ty "bool") (.base (.bl b)) (kit_ty (by decide +kernel))
theorem v_truths {a : Addr} {b : Bool} {H : Hp} (hs : SqL K H a [.bl b]) : SpV (sp__law_truths K) [.ref a] H (.bl true) := fun _ e _ q _ => ⟨a, b, rfl, ex_l e hs, q⟩
/-! ### what told tells, asked at once -/
theorem ev_isGood {T : Tx K mg} {σ : L2.St} {H1 : Hp} {te : TE} (ns : List Int) (h : EvQ te σ H1 (IsA T ns)) : Ev (tCB (rIsi K) (tCons te (tCons (tC (.ref T.c_Good)) tNil))) σ H1 (.bl (good ns)) := by
  refine ev_isiQ (K := K) (b := good ns) (c := .ref T.c_Good) (cu := .ref T.c_Good) (P := IsA T ns) h (fun v H9 h => ?_) (.own T.c_Good) (fun _ => ev_c) isA_stab
  rcases h with ⟨gg, p, dx, rfl, hp⟩ | ⟨gg, p, dx, rfl, hp⟩
  · exact ⟨_, T.i_Good.ty hp, by rw [gg]; exact T.kit_Good_Good⟩
  · exact ⟨_, T.i_Off.ty hp, by rw [gg]; exact T.kit_Off_Good⟩
theorem ev_isOff {T : Tx K mg} {σ : L2.St} {H1 : Hp} {te : TE} (ns : List Int) (h : EvQ te σ H1 (IsA T ns)) : Ev (tCB (rIsi K) (tCons te (tCons (tC (.ref T.c_Off)) tNil))) σ H1 (.bl (!good ns)) := by
  refine ev_isiQ (K := K) (b := !good ns) (c := .ref T.c_Off) (cu := .ref T.c_Off) (P := IsA T ns) h (fun v H9 h => ?_) (.own T.c_Off) (fun _ => ev_c) isA_stab
  rcases h with ⟨gg, p, dx, rfl, hp⟩ | ⟨gg, p, dx, rfl, hp⟩
  · exact ⟨_, T.i_Good.ty hp, by rw [gg]; exact T.kit_Good_Off⟩
  · exact ⟨_, T.i_Off.ty hp, by rw [gg]; exact T.kit_Off_Off⟩
theorem eq_toldV {T : Tx K mg} {σ : L2.St} {H : Hp} {te : TE} {E : XK} {a : Addr} {ns : List Int} (h : Ev te σ H (.ref a)) (hs : SqL K H a (ns.map V.int)) (hl : RowLen ns.length) : EvQ (tCall (sp_told T) [] E (tCons te tNil)) σ H (IsA T ns) := eq_call (vs := [.ref a]) (ea_cons h ea_nil) (v_told hs hl)
theorem eq_toldL {T : Tx K mg} {σ : L2.St} {H : Hp} {te : TE} {E : XK} {ns : List Int} (h : EvL te σ H (ns.map V.int)) (hl : RowLen ns.length) : EvQ (tCall (sp_told T) [] E (tCons te tNil)) σ H (IsA T ns) := eq_callL h fun p H9 e9 h9 => v_told (T := T) (ns := ns) (sq_of h9) hl
end
end PA

set_option Elab.async false
set_option linter.all false
set_option maxRecDepth 100000
set_option maxHeartbeats 4000000
namespace PA
open PySem PySem.Spec PyProof.Rows L2 Evl
local macro_rules | `(tactic| walk_at "ev") => `(tactic| repeat' (first | (with_reducible exact ev_c) | (with_reducible refine' ev_var ?_) | (show _ = some (some _); rfl) | (with_reducible exact ea_nil) | (with_reducible refine' ea_cons ?_ ?_) | (with_reducible refine' ev_abs ?_) | (with_reducible refine' ev_op ?_ ?_ ?_) | (with_reducible exact rv_I0) | (exact rv_mulL (by decide)) | (exact rv_mulR (by decide)) | (exact rv_div (by decide)) | (exact rv_mod (by decide)) | (exact rv_pow (by decide)) | (with_reducible refine' ev_un ?_ ?_) | (with_reducible exact ru_neg) | (exact rv_eq rfl) | (exact rv_ne rfl) | (with_reducible refine' et_test ?_) | (with_reducible refine' et_B ?_) | (exact ev_c) | (exact rv_I0) | (exact ru_neg) | (exact ea_nil) | (refine' ea_cons ?_ ?_)))
section
variable {P : Program} {w : World} {K : PySem.W.Frag} {mg : Str → Option Value} {base : Heap}
/-! ### two numbers of a right row, swapped -/
theorem rgt_inv {row : List Int} {n : Int} (h : rgt row n = true) : ∃ x y : Nat, posL row n = [x, y] ∧ x < y ∧ (y : Int) - (x : Int) = n := by
  by_cases hc : (posL row n).length = 2
  · obtain ⟨x, y, hp, hxy⟩ := pair_of hc
    rw [rgt_two hp] at h
    exact ⟨x, y, hp, hxy, of_decide_eq_true h⟩
  · rw [rgt_no hc] at h
    cases h
theorem swap_gap {row row' : List Int} {i j : Nat} {a : Int} (hlen : row'.length = row.length) (hi : i < row.length) (hj : j < row.length) (ha : row.getD i 0 = a) (hb : row.getD j 0 ≠ a) (ha' : row'.getD j 0 = a) (hr : ∀ k, k ≠ i → k ≠ j → row'.getD k 0 = row.getD k 0)
    (r : rgt row a = true) (r' : rgt row' a = true) : (j : Int) - (i : Int) = 2 * a ∨ (i : Int) - (j : Int) = 2 * a := by
  obtain ⟨x, y, hp, hxy, e⟩ := rgt_inv r
  obtain ⟨x', y', hp', hxy', e'⟩ := rgt_inv r'
  have mi : i ∈ posL row a := mem_pos.mpr ⟨hi, ha⟩
  have mj : j ∈ posL row' a := mem_pos.mpr ⟨by omega, ha'⟩
  have mx : x ∈ posL row a := by rw [hp]; simp
  have my : y ∈ posL row a := by rw [hp]; simp
  rw [hp] at mi
  rw [hp'] at mj
  have nj : ∀ o, o ∈ posL row a → o ≠ j := fun o ho z => hb (by rw [← z]; exact (mem_pos.mp ho).2)
  have keep : ∀ o, o ∈ posL row a → o ≠ i → o ∈ posL row' a := fun o ho oi => by
    have := mem_pos.mp ho
    exact mem_pos.mpr ⟨by omega, by rw [hr o oi (nj o ho)]; exact this.2⟩
  have jx := nj x mx
  have jy := nj y my
  simp only [List.mem_cons, List.not_mem_nil, or_false] at mi mj
  rcases mi with rfl | rfl
  · have z := keep y my (by omega)
    rw [hp'] at z
    simp only [List.mem_cons, List.not_mem_nil, or_false] at z
    omega
  · have z := keep x mx (by omega)
    rw [hp'] at z
    simp only [List.mem_cons, List.not_mem_nil, or_false] at z
    omega
theorem getD_set2 {row : List Int} {i j k : Nat} {u v : Int} (hi : i < row.length) (hj : j < row.length) : ((row.set i u).set j v).getD k 0 = if k = j then v else if k = i then u else row.getD k 0 := by
  rw [List.getD_eq_getElem?_getD, List.getElem?_set, List.length_set, List.getElem?_set, List.getD_eq_getElem?_getD]
  by_cases h1 : k = j
  · subst h1
    rw [if_pos rfl, if_pos rfl, if_pos hj]
    rfl
  · rw [if_neg (fun z => h1 z.symm), if_neg h1]
    by_cases h2 : k = i
    · subst h2
      rw [if_pos rfl, if_pos rfl, if_pos hi]
      rfl
    · rw [if_neg (fun z => h2 z.symm), if_neg h2]
theorem swap_bad {l : Int} (hl : Can l) {i j : Nat} (hi : i < (2 * l).toNat) (hj : j < (2 * l).toNat) (ne : (rowL l).getD i 0 ≠ (rowL l).getD j 0) : good (((rowL l).set i ((rowL l).getD j 0)).set j ((rowL l).getD i 0)) = false := by
  have len := rowL_len l
  have bnd : ∀ k : Nat, k < (2 * l).toNat → 1 ≤ (rowL l).getD k 0 ∧ (rowL l).getD k 0 ≤ l := fun k hk => by
    rw [rowL_get hk]
    exact (at_num hl (q := (k : Int)) (by omega) (by omega)).1
  have hi' : i < (rowL l).length := by omega
  have hj' : j < (rowL l).length := by omega
  have ij : i ≠ j := fun z => ne (by rw [z])
  have gt := fun k => getD_set2 (row := rowL l) (i := i) (j := j) (k := k) (u := (rowL l).getD j 0) (v := (rowL l).getD i 0) hi' hj'
  have len' : (((rowL l).set i ((rowL l).getD j 0)).set j ((rowL l).getD i 0)).length = (rowL l).length := by rw [List.length_set, List.length_set]
  cases e : good (((rowL l).set i ((rowL l).getD j 0)).set j ((rowL l).getD i 0)) with
  | false => rfl
  | true =>
    exfalso
    have gi := good_iff.mp e
    rw [len', len] at gi
    have ba := bnd i hi
    have bb := bnd j hj
    have ra := rowL_rgt hl ba.1 ba.2
    have rb := rowL_rgt hl bb.1 bb.2
    have ga := gi _ ba.1 (by omega)
    have gb := gi _ bb.1 (by omega)
    have z1 := swap_gap len' hi' hj' rfl (fun z => ne z.symm) (by rw [gt, if_pos rfl]) (fun k h1 h2 => by rw [gt, if_neg h2, if_neg h1]) ra ga
    have z2 := swap_gap len' hj' hi' rfl (fun z => ne z) (by rw [gt, if_neg ij, if_pos rfl]) (fun k h1 h2 => by rw [gt, if_neg h1, if_neg h2]) rb gb
    omega
theorem swap_same {row : List Int} {i j : Nat} (hi : i < row.length) (hj : j < row.length) (e : row.getD i 0 = row.getD j 0) : (row.set i (row.getD j 0)).set j (row.getD i 0) = row := by
  refine List.ext_getElem? fun k => ?_
  by_cases hk : k < row.length
  · have := getD_set2 (row := row) (i := i) (j := j) (k := k) (u := row.getD j 0) (v := row.getD i 0) hi hj
    have hk' : k < ((row.set i (row.getD j 0)).set j (row.getD i 0)).length := by rw [List.length_set, List.length_set]; exact hk
    rw [List.getD_eq_getElem?_getD, List.getElem?_eq_getElem hk'] at this
    rw [List.getElem?_eq_getElem hk', List.getElem?_eq_getElem hk]
    have e2 : row.getD k 0 = row[k] := by rw [List.getD_eq_getElem?_getD, List.getElem?_eq_getElem hk]; rfl
    congr 1
    rw [← e2]
    refine Eq.trans this ?_
    split
    · rename_i z
      rw [z, e]
    · split
      · rename_i z
        rw [z, e]
      · rfl
  · rw [List.getElem?_eq_none (by rw [List.length_set, List.length_set]; omega), List.getElem?_eq_none (by omega)]
theorem off_offN {row : List Int} (h : good row = false) : off row (offN row) = true := by
  have := offN_bad h
  unfold off
  rw [decide_eq_true this.1, decide_eq_true this.2.1, this.2.2]
  rfl
theorem el_row {T : Tx K mg} {σ : L2.St} {H : Hp} {ta : TA} {tr : TA} {E : XK} {l : Int} {j : Nat} {vs : List Nat} (hl : Can l) (h2 : l ≤ 20000) (ha : EvA ta σ H [.int (2 * l)]) (hw : ∀ x, wipe ((wipe σ vs).set j (some x)) vs = wipe σ vs) (hr : ∀ (i : Nat) H1, EvA tr ((wipe σ vs).set j (some (.int (i : Int)))) H1 [.int l, .int (i : Int)]) :
    EvL (tLc (iRng1 ta) (gName j) tYes (tCall (sp_number_at T) [] E tr) vs) σ H ((rowL l).map V.int) := by
  have := hl.1
  refine el_is (el_lcR1 (n := 2 * l) (fun _ => true) (fun i => .int (num l (i : Int))) ha (by omega) hw (fun _ _ _ _ => et_yes) fun i H1 e1 hi _ => ev_call (vs := [.int l, .int (i : Int)]) (hr i H1) (v_number_at (T := T) hl (by omega) (by omega))) ?_
  rw [given_all]
  unfold rowL
  rw [List.map_map]
  rfl
/-! ### _law_long_right -/
def sp__law_long_right : Sp := fun vs H Q _ => ∃ wh : Int, vs = [.int wh] ∧ 0 ≤ wh ∧ RetV (.bl true) H Q
theorem ok__law_long_right (T : Tx K mg) : FnOk P w K mg base CX0 6 T.a__law_long_right T.d__law_long_right ["_law_whole"] sp__law_long_right := by
  refine T.F__law_long_right.ok sc__law_long_right (fun vs H Q E h => ?_) (fun cdv A outer s H vs Q E hr h => ?_)
  · obtain ⟨wh, rfl, _⟩ := h
    rfl
  · obtain ⟨wh, rfl, h0, k⟩ := h
    refine ⟨_, (pss_cons (ps_set (i := 1) sc__law_long_right.nd rfl (.inr rfl) (pe_op op_mul pe_int (pe_op op_add pe_int (pe_op op_mod (pv 0) pe_int))))
      (pss_cons (ps_setLc (i := 2) (own := [("_law_place", 7)]) (by rfl) sc__law_long_right.nd rfl rfl (sw_true rfl rfl rfl (by decide +kernel)) (pi_range1 (by rfl) T.m_range (pa_cons (pe_op op_mul pe_int (pv 1)) pa_nil)) (blkOk_by (own := [("_law_place", 7)]) (N := N__law_long_right) (sc := defScope s__law_long_right) (by decide +kernel)) (fun _ _ _ _ _ => (pg_name (i := 7) sc__law_long_right.nd rfl (Or.inl rfl))) (fun _ _ _ _ _ => pts_nil) (fun _ _ _ _ _ => (pe_call (ok_number_at T) (hr.mono (by decide)) (by rfl) T.g_number_at T.F_number_at.kp T.b_number_at .nil passLN (pa_cons (pv 1) (pa_cons (pv 7) pa_nil)))))
      (pss_cons (ps_if (PW.pt (pw_or (pt_not (pt_val (pe_call (ok__law_plain T) (hr.mono (by decide)) (by rfl) T.g__law_plain T.F__law_plain.kp T.b__law_plain .nil pass0 (pa_cons (pv 2) pa_nil)))) (pw_or (pt_not (pt_val (pe_callB (r := rIsi K) call_isi (by rfl) T.m_isinstance bt_isinstance (pa_cons (pe_call (ok_told T) (hr.mono (by decide)) (by rfl) T.g_told T.F_told.kp T.b_told .nil passLN (pa_cons (pv 2) pa_nil)) (pa_cons (pe_glob (v := .ref T.c_Good) (by rfl) T.g_Good rfl) pa_nil))))) (pw_or1 (pt_not (pt_val (pe_callB (r := rIsi K) call_isi (by rfl) T.m_isinstance bt_isinstance (pa_cons (pe_call (ok_told T) (hr.mono (by decide)) (by rfl) T.g_told T.F_told.kp T.b_told .nil passLN (pa_cons (pe_call (ok_mirrored T) (hr.mono (by decide)) (by rfl) T.g_mirrored T.F_mirrored.kp T.b_mirrored .nil passLN (pa_cons (pv 2) pa_nil)) pa_nil)) (pa_cons (pe_glob (v := .ref T.c_Good) (by rfl) T.g_Good rfl) pa_nil))))))))) (pss_one (ps_ret pe_bl)) pss_nil)
      (pss_cons (ps_if (PW.pt (pw_and (pt_cmpR op_le (pv 1) pe_int (nomark _)) (pw_and1 (pt_cmpR (r := rNeD K) (op_neD hr.units) (pe_call (ok_row T) (hr.mono (by decide)) (by rfl) T.g_row T.F_row.kp T.b_row .nil passLN (pa_cons (pv 1) pa_nil)) (pv 2) (nomark _))))) (pss_one (ps_ret pe_bl)) pss_nil)
      (pss_cons (ps_par (i := 3) (j := 4) (by rfl) sc__law_long_right.nd rfl rfl (by decide) rfl rfl (pa_cons (pe_op op_mod (pv 0) (pe_op op_mul pe_int (pv 1))) (pa_cons (pe_op op_mod (pe_op op_add (pe_op op_fdiv (pv 0) pe_int) pe_int) (pe_op op_mul pe_int (pv 1))) pa_nil)) (by rfl))
      (pss_cons (ps_set (i := 5) sc__law_long_right.nd rfl (.inl rfl) (pe_callTy (r := rListS K) call_list_of (by rfl) T.m_list bt_list (pa_cons (pv 2) pa_nil)))
      (pss_cons (ps_asg (pe_tup (pa_cons (pe_ix (r := rIxL K) ix_list (pv 2) (pv 4) (fun _ _ => rfl)) (pa_cons (pe_ix (r := rIxL K) ix_list (pv 2) (pv 3) (fun _ _ => rfl)) pa_nil))) (pg_tup rfl (pgs_cons (pg_sub (pv 5) (pv 3) set_list) (pgs_cons (pg_sub (pv 5) (pv 4) set_list) pgs_nil))))
      (pss_cons (ps_set (i := 6) sc__law_long_right.nd rfl (.inl rfl) (pe_call (ok_told T) (hr.mono (by decide)) (by rfl) T.g_told T.F_told.kp T.b_told .nil passLN (pa_cons (pv 5) pa_nil)))
      (pss_cons (ps_if (pt_cmpR op_eq (pe_ix (r := rIxL K) ix_list (pv 2) (pv 3) (fun _ _ => rfl)) (pe_ix (r := rIxL K) ix_list (pv 2) (pv 4) (fun _ _ => rfl)) (nomark _)) (pss_one (ps_ret (pe_callB (r := rIsi K) call_isi (by rfl) T.m_isinstance bt_isinstance (pa_cons (pv 6) (pa_cons (pe_glob (v := .ref T.c_Good) (by rfl) T.g_Good rfl) pa_nil))))) pss_nil)
      (pss_cons (ps_if (PW.pt (pw_or (pt_not (pt_val (pe_callB (r := rIsi K) call_isi (by rfl) T.m_isinstance bt_isinstance (pa_cons (pv 6) (pa_cons (pe_glob (v := .ref T.c_Off) (by rfl) T.g_Off rfl) pa_nil))))) (pw_or1 (pt_cmpR op_isnot_bl (pe_meth (pv 6) T.i_Off.cl T.s_Off (ok_Off_shows T) (hr.mono (by decide)) T.b_Off_shows .nil pass0 (pa_cons (pv 5) pa_nil)) pe_bl (nomark _))))) (pss_one (ps_ret pe_bl)) pss_nil)
      (pss_one (ps_ret (pe_and (pe_call (ok__law_plain T) (hr.mono (by decide)) (by rfl) T.g__law_plain T.F__law_plain.kp T.b__law_plain .nil pass0 (pa_cons (pe_lst (pa_cons (pe_fld (pv 6) rfl) pa_nil)) pa_nil)) (pe_one (pe_not (pe_meth (pe_new0 T.n_Good (by rfl) T.g_Good) T.i_Good.cl T.s_Good (ok_Good_shows T) (hr.mono (by decide)) T.b_Good_shows .nil pass0 (pa_cons (pv 5) pa_nil) (ht := mcall_of (by first | rfl | exact abase_call (by decide)) (fun _ => rfl)))))))))))))))))), ?_⟩
    refine q_asg (v := .int (4 * (1 + wh % 50))) (by walk_at "ev") fun H1 e1 => ?_
    have m0 := Int.emod_nonneg wh (show (50 : Int) ≠ 0 by decide)
    have m1 := Int.emod_lt_of_pos wh (show (0 : Int) < 50 by decide)
    generalize hlq : 4 * (1 + wh % 50) = l
    have lc : Can l := ⟨by omega, by omega⟩
    have l1 : l ≤ 200 := by omega
    have l4 := lc.1
    have glen := rowL_len l
    have rr : RowLen (rowL l).length := ⟨by omega, by omega, by omega⟩
    refine q_asgL (el_row (T := T) lc (by omega) (by walk_at "ev") (fun _ => rfl) fun i H2 => by walk_at "ev") fun f H2 hf e2 h2 => ?_
    refine q_when (b := false) (et_is (et_or (et_not (et_B (ev_call (vs := [.ref f]) (ea_cons (ev_var rfl) ea_nil) (v_plainL (sq_of h2) (by omega))))) fun _ => et_or (et_not (et_B (ev_isGood (T := T) _ (eq_toldV (ev_var rfl) (sq_of h2) rr)))) fun _ => et_not (et_B (ev_isGood (T := T) _ (eq_toldL (el_call (vs := [.ref f]) (ea_cons (ev_var rfl) ea_nil) (v_mirrored (T := T) (sq_of h2) rr)) (by rw [List.length_reverse]; exact rr))))) ?_) (fun z => nomatch z) fun _ H3 e3 => ?_
    · rw [good_rev, rowL_good lc]
      rfl
    have h3 := e3 _ _ h2
    refine q_when (b := false) (et_is (et_and (et_test (by walk_at "ev")) fun z => et_test (ev_opL1 (el_call (vs := [.int l]) (by walk_at "ev") (v_row (T := T) lc (of_decide_eq_true z))) (fun _ _ => ev_var rfl) fun p H4 hp e4 => rv_neL (sq_of hp) (sq_of (e4 _ _ h3)))) (by simp)) (fun z => nomatch z) fun _ H4 e4 => ?_
    have h4 := e4 _ _ h3
    have md : ∀ {σ : L2.St} {H : Hp} {ta tb : TE} {x : Int}, Ev ta σ H (.int x) → Ev tb σ H (.int (2 * l)) → Ev (tOp (rI (fun _ j => 0 < j) fun i j => .int (i % j)) ta tb) σ H (.int (x % (2 * l))) := fun h1 h2 => ev_op h1 h2 (rv_mod (by omega))
    refine q_par (ea_cons (md (by walk_at "ev") (by walk_at "ev")) (ea_cons (md (by walk_at "ev") (by walk_at "ev")) ea_nil)) fun H5 e5 => ?_
    have at0 := Int.emod_nonneg wh (show 2 * l ≠ 0 by omega)
    have at1 := Int.emod_lt_of_pos wh (show 0 < 2 * l by omega)
    have pl0 := Int.emod_nonneg (wh / 3 + 1) (show 2 * l ≠ 0 by omega)
    have pl1 := Int.emod_lt_of_pos (wh / 3 + 1) (show 0 < 2 * l by omega)
    generalize wh % (2 * l) = i at *
    generalize (wh / 3 + 1) % (2 * l) = j at *
    have h5 := e5 _ _ h4
    refine q_asgL (el_list (ev_var rfl) (sq_of h5)) fun m H6 hm e6 h6 => ?_
    have h6f := e6 _ _ h5
    have ei : ((i.toNat : Nat) : Int) = i := by omega
    have ej : ((j.toNat : Nat) : Int) = j := by omega
    have li : i < (rowL l).length := by omega
    have lj : j < (rowL l).length := by omega
    have mlen : ((rowL l).map V.int).length = (2 * l).toNat := by rw [List.length_map, glen]
    refine q_swap (K := K) (i := i.toNat) (j := j.toNat) (v := .int ((rowL l).getD j.toNat 0)) (w := .int ((rowL l).getD i.toNat 0)) h6 (eu_tup (ea_cons (ev_op (ev_var rfl) (ev_var rfl) (rv_ixL (sq_of h6f) (atI_int pl0 lj))) (ea_cons (ev_op (ev_var rfl) (ev_var rfl) (rv_ixL (sq_of h6f) (atI_int at0 li))) ea_nil)) (by show 2 ≤ 100000; decide)) (fun _ => ev_var rfl) (fun _ => ev_var rfl) (fun _ => by rw [ei]; exact ev_var rfl) (fun _ => by rw [ej]; exact ev_var rfl) (by omega) (by omega) fun H7 e7 h7 => ?_
    have e57 : Ex H5 H7 := ex_but e6 hm e7
    have h7' : H7 m = some (.lst ((((rowL l).set i.toNat ((rowL l).getD j.toNat 0)).set j.toNat ((rowL l).getD i.toNat 0)).map V.int)) := by
      rw [h7, List.map_set, List.map_set]
    have h7f := e57 _ _ h5
    have e07 : Ex H H7 := ((((e1.trans e2).trans e3).trans e4).trans e5).trans e57
    have mlen2 : (((rowL l).set i.toNat ((rowL l).getD j.toNat 0)).set j.toNat ((rowL l).getD i.toNat 0)).length = (rowL l).length := by rw [List.length_set, List.length_set]
    have rr2 : RowLen (((rowL l).set i.toNat ((rowL l).getD j.toNat 0)).set j.toNat ((rowL l).getD i.toNat 0)).length := by rw [mlen2]; exact rr
    have sb := swap_bad lc (i := i.toNat) (j := j.toNat) (by omega) (by omega)
    have ss := swap_same (row := rowL l) (i := i.toNat) (j := j.toNat) (by omega) (by omega)
    change tSeq _ _ _ [some (.int wh), some (.int l), some (.ref f), some (.int i), some (.int j), some (.ref m), none, none] _
    refine q_asgQ (eq_toldV (T := T) (ev_var rfl) (sq_of h7') rr2) fun v H8 e8 hv => ?_
    have h8f := e8 _ _ h7f
    have h8m := e8 _ _ h7'
    generalize ((rowL l).set i.toNat ((rowL l).getD j.toNat 0)).set j.toNat ((rowL l).getD i.toNat 0) = bent at *
    refine q_when (et_test (ev_op (ev_op (ev_var rfl) (ev_var rfl) (rv_ixL (sq_of h8f) (atI_int at0 li))) (ev_op (ev_var rfl) (ev_var rfl) (rv_ixL (sq_of h8f) (atI_int pl0 lj))) (rv_eq rfl))) (fun z H9 e9 => ?_) fun z H9 e9 => ?_
    · have z := V.int.inj (of_decide_eq_true z)
      rw [ss z] at hv
      refine s_ret (v := .bl true) (ev_is (ev_isGood (T := T) _ (eq_val (ev_var rfl) fun H10 e10 => isA_stab _ _ _ (e9.trans e10) hv)) (by rw [rowL_good lc])) fun H10 e10 => k H10 (((e07.trans e8).trans e9).trans e10)
    · have z : (rowL l).getD i.toNat 0 ≠ (rowL l).getD j.toNat 0 := fun y => (of_decide_eq_false z) (by rw [y])
      have bd := sb z
      rcases hv with ⟨hg, _⟩ | ⟨_, p, dx, rfl, hp⟩
      · rw [bd] at hg
        cases hg
      have hp9 := e9 _ _ hp
      refine q_when (b := false) (et_is (et_or (et_not (et_B (ev_isi (ea_cons (ev_var rfl) (ea_cons ev_c ea_nil)) (.own T.c_Off) (T.i_Off.ty hp9) T.kit_Off_Off))) fun _ => et_test (ev_op (ev_methV hp9 (ev_var rfl) rfl (vs := [.ref m]) (ea_cons (ev_var rfl) ea_nil) (v_Off_shows (T := T) hp9 (sq_of (e9 _ _ h8m)))) ev_c rv_isntB)) (by rw [off_offN bd]; rfl)) (fun z => nomatch z) fun _ HA eA => ?_
      have hpA := eA _ _ hp9
      refine s_ret (v := .bl true) (ev_is (ev_andV (ev_callL1 (xs := ([offN bent] : List Int).map V.int) (el_lst (ea_cons (ev_fld hpA (ev_var rfl) T.i_Off.cl T.na_Off_number rfl) ea_nil) (by show 1 ≤ 100000; decide)) fun q HB eB hB => v_plainL (sq_of hB) (by show 1 ≤ 1000; decide)) fun _ => ev_notV (ev_methN (ei_new (C := T.c_Good)) rfl (vs := [.ref m]) (ea_cons (ev_var rfl) ea_nil) fun p dx HB eB hB => v_Good_shows (sq_of (eB _ _ (eA _ _ (e9 _ _ h8m)))) (by have := rr2.2.1; omega))) ?_) fun HB eB => k HB ((((e07.trans e8).trans e9).trans eA).trans eB)
      rw [bd]
      rfl
theorem v__law_long_right {wh : Int} {H : Hp} (h : 0 ≤ wh) : SpV sp__law_long_right [.int wh] H (.bl true) := fun _ _ _ q _ => ⟨wh, rfl, h, q⟩
end
end PA

set_option Elab.async false
set_option linter.all false
set_option maxRecDepth 100000
set_option maxHeartbeats 4000000
namespace PA
open PySem PySem.Spec PyProof.Rows L2 Evl LamX NdefX
local macro_rules | `(tactic| walk_at "ev") => `(tactic| repeat' (first | (with_reducible exact ev_c) | (with_reducible refine' ev_var ?_) | (show _ = some (some _); rfl) | (with_reducible exact ea_nil) | (with_reducible refine' ea_cons ?_ ?_) | (with_reducible refine' ev_abs ?_) | (with_reducible refine' ev_op ?_ ?_ ?_) | (with_reducible exact rv_I0) | (exact rv_mulL (by decide)) | (exact rv_mulR (by decide)) | (exact rv_div (by decide)) | (exact rv_mod (by decide)) | (exact rv_pow (by decide)) | (with_reducible refine' ev_un ?_ ?_) | (with_reducible exact ru_neg) | (exact rv_eq rfl) | (exact rv_ne rfl) | (with_reducible refine' et_test ?_) | (with_reducible refine' et_B ?_) | (exact ev_c) | (exact rv_I0) | (exact ru_neg) | (exact ea_nil) | (refine' ea_cons ?_ ?_)))
section
variable {P : Program} {w : World} {K : PySem.W.Frag} {mg : Str → Option Value} {base : Heap}
theorem bits_le {x : Int} {m : Nat} (h : x.natAbs < 2 ^ m) : Builtin.Int.intBits x ≤ m := intBits_le_iff.mpr h
theorem stab_val {u : V} : Stab (fun v _ => v = u) := fun _ _ _ _ h => h
theorem ev_isCan {T : Tx K mg} {b r1 r0 : Bool} {c : Addr} {σ : L2.St} {H : Hp} {ta : TE} (h : EvQ ta σ H (fun v H => ∃ p, v = .ref p ∧ IsB T b p H)) (k1 : PySem.W.kitOne K (.ref T.c_Can) (.ref c) = some r1) (k0 : PySem.W.kitOne K (.ref T.c_Barred) (.ref c) = some r0) :
    Ev (tCB (rIsi K) (tCons ta (tCons (tC (.ref c)) tNil))) σ H (.bl (if b then r1 else r0)) := by
  refine ev_isiQ (K := K) (c := .ref c) (cu := .ref c) h (fun v H9 h => ?_) (.own c) (fun _ => ev_c) (fun v H0 H1 e h => ?_)
  · obtain ⟨p, rfl, dx, hp⟩ := h
    cases b with
    | true => exact ⟨_, T.i_Can.ty hp, k1⟩
    | false => exact ⟨_, T.i_Barred.ty hp, k0⟩
  · obtain ⟨p, rfl, hp⟩ := h
    exact ⟨p, rfl, hp.ex e⟩
/-- can(n).shows(n) -/
theorem ev_canShows {T : Tx K mg} {n : Int} {σ : L2.St} {H : Hp} {t t' u u' : TA} {E E' F F' : XK} (h1 : 1 ≤ n) (ha : EvA t σ H [.int n]) (ha' : EvA t' σ H [.int n]) (hu : EvA u σ H [.int n]) (hu' : EvA u' σ H [.int n]) :
    Ev (fun σ H Q => tMeth T.c_Can "shows" sp_Can_shows [] E (tCall (sp_can T) [] F t) u σ H Q ∨ tMeth T.c_Barred "shows" sp_Barred_shows [] E' (tCall (sp_can T) [] F' t') u' σ H Q) σ H (.bl true) := by
  by_cases hb : n % 4 < 2
  · exact ev_is (ev_orL (ev_methN (ei_call ha (v_can1 h1 hb)) rfl hu fun p dx H1 _ _ => v_Can_shows)) (by rw [decide_eq_true hb])
  · exact ev_is (ev_orR (ev_methN (ei_call ha' (v_can0 h1 hb)) rfl hu' fun p dx H1 _ _ => v_Barred_shows)) (by rw [decide_eq_false hb]; rfl)
/-! ### _law_known_right -/
def KC : List (List Int × V) := [([1, 1], .non), ([1, 2], .int 1), ([2, 2], .int 1), ([0, 0], .int 1), ([1, 1, 7, 7], .int 2), ([4, 2, 3, 2, 4, 3, 1, 1], .non)]
theorem KC_ok : ∀ c ∈ KC, RowLen c.1.length ∧ ((good c.1 = true ∧ c.2 = .non) ∨ (good c.1 = false ∧ c.2 = .int (offN c.1))) := by
  intro c hc
  simp only [KC, List.mem_cons, List.not_mem_nil, or_false] at hc
  rcases hc with rfl | rfl | rfl | rfl | rfl | rfl
  · exact ⟨by decide, .inl ⟨by decide, rfl⟩⟩
  · exact ⟨by decide, .inr ⟨by decide, by decide⟩⟩
  · exact ⟨by decide, .inr ⟨by decide, by decide⟩⟩
  · exact ⟨by decide, .inr ⟨by decide, by decide⟩⟩
  · exact ⟨by decide, .inr ⟨by decide, by decide⟩⟩
  · exact ⟨by decide, .inl ⟨by decide, rfl⟩⟩
/-- a pair of a row and what is due -/
def KCase (v : V) (H : Hp) : Prop := ∃ c ∈ KC, ∃ a b : Addr, v = .ref a ∧ H a = some (.tup [.ref b, c.2]) ∧ H b = some (.lst (c.1.map V.int))
theorem kcase_stab : Stab KCase := fun v H H' e h => by
  obtain ⟨c, hc, a, b, r, h1, h2⟩ := h
  exact ⟨c, hc, a, b, r, e _ _ h1, e _ _ h2⟩
theorem kc_new {σ : L2.St} {H : Hp} {ta tb : TE} (ns : List Int) (due : V) (hc : (ns, due) ∈ KC) (h : EvL ta σ H (ns.map V.int)) (hb : ∀ H1, Ev tb σ H1 due) : EvQ (tTup (tCons ta (tCons tb tNil))) σ H KCase := fun H1 e Q q =>
  h H1 e _ fun b H2 _ e2 h2 => hb H2 H2 (Ex.refl _) _ fun H3 e3 => ⟨sz_of (by show 2 ≤ 100000; decide), fun p hp => q _ _ ((e2.trans e3).trans (Ex.new hp)) ⟨(ns, due), hc, p, b, rfl, upd_same, Ex.new hp _ _ (e3 _ _ h2)⟩⟩
def sp__law_known_right (T : Tx K mg) : Sp := fun vs H Q _ => ∃ r : Int, vs = [.int r] ∧ 0 ≤ r ∧ r < 4 ∧ H T.p__law_known_right = some (.tbl #[]) ∧ ∀ H', ExB T.p__law_known_right H H' → Q (.bl true) H'
theorem can1 : Can 1 := by unfold Can; decide
theorem can4 : Can 4 := by unfold Can; decide
theorem ok__law_known_right (T : Tx K mg) (TB : TabB base mg T.q__law_known_right T.p__law_known_right) : FnOk P w K mg base CX0 8 T.a__law_known_right T.d__law_known_right ["_law_rest"] (sp__law_known_right T) := by
  refine okC T.C__law_known_right sc__law_known_right (fun vs H Q E h => ?_) (fun A outer s H vs Q E hr h => ?_)
  · obtain ⟨r, rfl, _⟩ := h
    rfl
  · obtain ⟨rs, rfl, r0, r4, hT, k⟩ := h
    refine ⟨_, (pss_cons (ps_if (PW.pt (pw_or (pt_cmpR (r := rNeD K) (op_neD hr.units) (pe_call (ok_row T) (hr.mono (by decide)) (by rfl) T.g_row T.F_row.kp T.b_row .nil passLN (pa_cons pe_int pa_nil)) (pe_lst (pa_cons pe_int (pa_cons pe_int pa_nil))) (nomark _)) (pw_or (pt_cmpR (r := rNeD K) (op_neD hr.units) (pe_call (ok_places_of T) (hr.mono (by decide)) (by rfl) T.g_places_of T.F_places_of.kp T.b_places_of .nil passLN (pa_cons pe_int (pa_cons pe_int pa_nil))) (pe_tup (pa_cons pe_int (pa_cons pe_int pa_nil))) (nomark _)) (pw_or1 (pt_cmpR (r := rNeD K) (op_neD hr.units) (pe_lc (own := [("_law_one", 9)]) (by rfl) sc__law_known_right.nd (pi_tup (pe_tup (pa_cons pe_int (pa_cons pe_int (pa_cons pe_int pa_nil))))) (blkOk_by (own := [("_law_one", 9)]) (N := N__law_known_right) (sc := defScope s__law_known_right) (by decide +kernel)) (fun _ _ _ _ _ => (pg_name (i := 9) sc__law_known_right.nd rfl (Or.inl rfl))) (fun _ _ _ _ _ => pts_nil) (fun _ _ _ _ _ => (pe_call (ok_three_of T) (hr.mono (by decide)) (by rfl) T.g_three_of T.F_three_of.kp T.b_three_of .nil passLN (pa_cons pe_int (pa_cons (pv 9) pa_nil))))) (pe_op op_rep (pe_lst (pa_cons (pe_lst (pa_cons pe_int (pa_cons pe_int (pa_cons pe_int pa_nil)))) pa_nil)) pe_int) (nomark _)))))) (pss_one (ps_ret pe_bl)) pss_nil)
      (pss_cons (ps_set (i := 1) sc__law_known_right.nd rfl (.inl rfl) (pe_lst (pa_cons (pe_tup (pa_cons (pe_lst (pa_cons pe_int (pa_cons pe_int pa_nil))) (pa_cons pe_non pa_nil))) (pa_cons (pe_tup (pa_cons (pe_lst (pa_cons pe_int (pa_cons pe_int pa_nil))) (pa_cons pe_int pa_nil))) (pa_cons (pe_tup (pa_cons (pe_lst (pa_cons pe_int (pa_cons pe_int pa_nil))) (pa_cons pe_int pa_nil))) (pa_cons (pe_tup (pa_cons (pe_lst (pa_cons pe_int (pa_cons pe_int pa_nil))) (pa_cons pe_int pa_nil))) (pa_cons (pe_tup (pa_cons (pe_lst (pa_cons pe_int (pa_cons pe_int (pa_cons pe_int (pa_cons pe_int pa_nil))))) (pa_cons pe_int pa_nil))) pa_nil)))))))
      (pss_cons (ps_for PassesOwn.never rfl (pi_list (pe_op op_cat (pv 1) (pe_lst (pa_cons (pe_tup (pa_cons (pe_lst (pa_cons pe_int (pa_cons pe_int (pa_cons pe_int (pa_cons pe_int (pa_cons pe_int (pa_cons pe_int (pa_cons pe_int (pa_cons pe_int pa_nil))))))))) (pa_cons pe_non pa_nil))) pa_nil)))) (pg_tup rfl (pgs_cons (pg_name (i := 2) sc__law_known_right.nd rfl (Or.inl rfl)) (pgs_cons (pg_name (i := 3) sc__law_known_right.nd rfl (Or.inl rfl)) pgs_nil)))
      (pss_cons (ps_set (i := 4) sc__law_known_right.nd rfl (.inl rfl) (pe_call (ok_told T) (hr.mono (by decide)) (by rfl) T.g_told T.F_told.kp T.b_told .nil passLN (pa_cons (pv 2) pa_nil)))
      (pss_cons (ps_if (PW.pt (pw_or (pt_cmpR op_ne (pe_callB (r := rIsi K) call_isi (by rfl) T.m_isinstance bt_isinstance (pa_cons (pv 4) (pa_cons (pe_glob (v := .ref T.c_Good) (by rfl) T.g_Good rfl) pa_nil))) (pe_cmpR op_isN (pv 3) pe_non (nomark _)) (nomark _)) (pw_or1 (PW.pt (pw_and (pt_cmpR op_notN (pv 3) pe_non (nomark _)) (pw_and1 (pt_cmpR op_ne (pe_fld (pv 4) rfl) (pv 3) (nomark _)))))))) (pss_one (ps_ret pe_bl)) pss_nil)
      (pss_one (ps_if (pt_not (pt_val (pe_call (ok__law_truths T) (hr.mono (by decide)) (by rfl) T.g__law_truths T.F__law_truths.kp T.b__law_truths .nil pass0 (pa_cons (pe_lst (pa_cons (PE.or (pe_meth (pv 4) T.i_Good.cl T.s_Good (ok_Good_shows T) (hr.mono (by decide)) T.b_Good_shows .nil pass0 (pa_cons (pv 2) pa_nil)) (pe_meth (pv 4) T.i_Off.cl T.s_Off (ok_Off_shows T) (hr.mono (by decide)) T.b_Off_shows .nil pass0 (pa_cons (pv 2) pa_nil))) pa_nil)) pa_nil)))) (pss_one (ps_ret pe_bl)) pss_nil)))))
      (pss_cons (ps_set (i := 5) sc__law_known_right.nd rfl (.inl rfl) (pe_call (ok_row T) (hr.mono (by decide)) (by rfl) T.g_row T.F_row.kp T.b_row .nil passLN (pa_cons pe_int pa_nil)))
      (pss_cons (ps_set (i := 6) sc__law_known_right.nd rfl (.inl rfl) (pe_callTy (r := rListS K) call_list_of (by rfl) T.m_list bt_list (pa_cons (pv 5) pa_nil)))
      (pss_cons (ps_expr (pe_bm PySem.F.plainAttrs_list PySem.F.slot_list_append PySem.F.type_list_append mt_append (pv 5) (pa_cons pe_int pa_nil)))
      (pss_cons (ps_set (i := 7) sc__law_known_right.nd rfl (.inl rfl) (pe_call (ok_three_of T) (hr.mono (by decide)) (by rfl) T.g_three_of T.F_three_of.kp T.b_three_of .nil passLN (pa_cons pe_int (pa_cons pe_int pa_nil))))
      (pss_cons (ps_expr (pe_bm0 PySem.F.plainAttrs_list PySem.F.slot_list_clear PySem.F.type_list_clear mt_clear (pv 7)))
      (pss_cons (ps_if (PW.pt (pw_or (pt_cmpR (r := rNeD K) (op_neD hr.units) (pe_call (ok_row T) (hr.mono (by decide)) (by rfl) T.g_row T.F_row.kp T.b_row .nil passLN (pa_cons pe_int pa_nil)) (pv 6) (nomark _)) (pw_or (pt_cmpR op_ne (pe_callB (r := rLenS K) call_len_seq (by rfl) T.m_len bt_len (pa_cons (pe_call (ok_three_of T) (hr.mono (by decide)) (by rfl) T.g_three_of T.F_three_of.kp T.b_three_of .nil passLN (pa_cons pe_int (pa_cons pe_int pa_nil))) pa_nil)) pe_int (nomark _)) (pw_or (pt_not (pt_val (pe_callB (r := rIsi K) call_isi (by rfl) T.m_isinstance bt_isinstance (pa_cons (pe_call (ok_can T) (hr.mono (by decide)) (by rfl) T.g_can T.F_can.kp T.b_can .nil passLN (pa_cons pe_int pa_nil)) (pa_cons (pe_glob (v := .ref T.c_Can) (by rfl) T.g_Can rfl) pa_nil))))) (pw_or1 (pt_not (pt_val (pe_callB (r := rIsi K) call_isi (by rfl) T.m_isinstance bt_isinstance (pa_cons (pe_call (ok_can T) (hr.mono (by decide)) (by rfl) T.g_can T.F_can.kp T.b_can .nil passLN (pa_cons pe_int pa_nil)) (pa_cons (pe_glob (v := .ref T.c_Barred) (by rfl) T.g_Barred rfl) pa_nil)))))))))) (pss_one (ps_ret pe_bl)) pss_nil)
      (pss_cons (ps_set (i := 8) sc__law_known_right.nd rfl (.inr rfl) (pe_op op_add (pe_op op_mulX (pe_op op_mul pe_int (pe_op op_pow pe_int pe_int)) (pe_op op_pow pe_int pe_int)) (pv 0)))
      (pss_cons (ps_if (PW.pt (pw_or (pt_cmpR op_ne (pe_callB (r := rIsi K) call_isi (by rfl) T.m_isinstance bt_isinstance (pa_cons (pe_call (ok_can T) (hr.mono (by decide)) (by rfl) T.g_can T.F_can.kp T.b_can .nil passLN (pa_cons (pv 8) pa_nil)) (pa_cons (pe_glob (v := .ref T.c_Can) (by rfl) T.g_Can rfl) pa_nil))) (pe_cmpR op_lt (pe_op op_mod (pv 8) pe_int) pe_int (nomark _)) (nomark _)) (pw_or1 (pt_cmpR op_isnot_bl (PE.or (pe_meth (pe_call (ok_can T) (hr.mono (by decide)) (by rfl) T.g_can T.F_can.kp T.b_can .nil passLN (pa_cons (pv 8) pa_nil)) T.i_Can.cl T.s_Can (ok_Can_shows T) (hr.mono (by decide)) T.b_Can_shows .nil pass0 (pa_cons (pv 8) pa_nil) (ht := mcall_of (by first | rfl | exact abase_call (by decide)) (fun _ => rfl))) (pe_meth (pe_call (ok_can T) (hr.mono (by decide)) (by rfl) T.g_can T.F_can.kp T.b_can .nil passLN (pa_cons (pv 8) pa_nil)) T.i_Barred.cl T.s_Barred (ok_Barred_shows T) (hr.mono (by decide)) T.b_Barred_shows .nil pass0 (pa_cons (pv 8) pa_nil) (ht := mcall_of (by first | rfl | exact abase_call (by decide)) (fun _ => rfl)))) pe_bl (nomark _))))) (pss_one (ps_ret pe_bl)) pss_nil)
      (pss_cons (ps_if (pt_cmpR op_gt (pe_op op_mod (pv 8) pe_int) pe_int (nomark _)) (pss_one (ps_ret (pe_callF (ok__law_refused T) (hr.mono (by decide)) (by rfl) T.g__law_refused T.F__law_refused.kp T.b__law_refused pass0 (ref_hs T) (pa_cons (pe_lam (q := lamq "_law_known_right" s__law_known_right) TB rfl rfl rfl (NdefX.ndef_free (sc := defScope s__law_known_right) (fr := ["_law_great"]) (by decide +kernel))) (pa_cons pe_int (pa_cons pe_int pa_nil)))))) pss_nil)
      (pss_cons (ps_set (i := 9) sc__law_known_right.nd rfl (.inl rfl) (pe_call (ok_places_of T) (hr.mono (by decide)) (by rfl) T.g_places_of T.F_places_of.kp T.b_places_of .nil passLN (pa_cons (pv 8) (pa_cons (pe_op op_fdiv (pv 8) pe_int) pa_nil))))
      (pss_cons (ps_if (PW.pt (pw_or (pt_not (pt_val (pe_callB (r := rIsi K) call_isi (by rfl) T.m_isinstance bt_isinstance (pa_cons (pv 9) (pa_cons (pe_bltn (v := .ty "tuple") (by rfl) T.m_tuple bt_tuple rfl) pa_nil))))) (pw_or (pt_cmpR op_ne (pe_op op_sub (pe_ix (r := rIxT K) ix_tup (pv 9) pe_int (fun _ _ => rfl)) (pe_ix (r := rIxT K) ix_tup (pv 9) pe_int (fun _ _ => rfl))) (pe_op op_fdiv (pv 8) pe_int) (nomark _)) (pw_or1 (pt_not (pt_val (pe_call (ok__law_plain T) (hr.mono (by decide)) (by rfl) T.g__law_plain T.F__law_plain.kp T.b__law_plain .nil pass0 (pa_cons (pv 9) pa_nil)))))))) (pss_one (ps_ret pe_bl)) pss_nil)
      (pss_cons (ps_set (i := 10) sc__law_known_right.nd rfl (.inl rfl) (pe_call (ok_three_of T) (hr.mono (by decide)) (by rfl) T.g_three_of T.F_three_of.kp T.b_three_of .nil passLN (pa_cons (pv 8) (pa_cons (pe_op op_fdiv (pv 8) pe_int) pa_nil))))
      (pss_one (ps_ret (pe_and (pe_cmpR (r := rEqD K) (op_eqD hr.units) (pe_lc (own := [("_law_place", 11)]) (by rfl) sc__law_known_right.nd (pi_tup (pv 9)) (blkOk_by (own := [("_law_place", 11)]) (N := N__law_known_right) (sc := defScope s__law_known_right) (by decide +kernel)) (fun _ _ _ _ _ => (pg_name (i := 11) sc__law_known_right.nd rfl (Or.inl rfl))) (fun _ _ _ _ _ => pts_nil) (fun _ _ _ _ _ => (pe_call (ok_number_at T) (hr.mono (by decide)) (by rfl) T.g_number_at T.F_number_at.kp T.b_number_at .nil passLN (pa_cons (pv 8) (pa_cons (pv 11) pa_nil))))) (pe_op op_rep (pe_lst (pa_cons (pe_op op_fdiv (pv 8) pe_int) pa_nil)) pe_int) (nomark _)) (pe_one (pe_cmpR op_eq (pe_callB (r := rSum K) (cr_sum rfl) (by rfl) T.m_sum bt_sum (pa_cons (pe_slice (r := rSlL K) sl_list (pv 10) po_none (po_some pe_int)) pa_nil)) (pe_ix (r := rIxL K) ix_list (pv 10) pe_int (fun _ _ => rfl)) (nomark _))))))))))))))))))))), ?_⟩
    refine q_when (b := false) (et_is (et_or (et_test (ev_opLL (ys := ([1, 1] : List Int).map V.int) (el_call (vs := [.int 1]) (by walk_at "ev") (v_row (T := T) can1 (by decide))) (el_lst (by walk_at "ev") (by show 2 ≤ 100000; decide)) fun p q H5 hp hq e5 => rv_neL (sq_of hp) (sq_of hq))) fun _ =>
      et_or (et_test (ev_opUU (xs := ([fst 1 1, fst 1 1 + 1] : List Int).map V.int) (ys := ([0, 1] : List Int).map V.int) (eu_call (vs := [.int 1, .int 1]) (by walk_at "ev") (v_places_of (T := T) can1 (by decide) (by decide))) (eu_tup (by walk_at "ev") (by show 2 ≤ 100000; decide)) fun p q H5 hp hq e5 => rv_neT (st_of hp) (st_of hq))) fun _ =>
      et_test (ev_ne33 (elo_NU (xs := ([1, 2, 3] : List Int).map V.int) _ (eu_tup (by walk_at "ev") (by show 3 ≤ 100000; decide)) (by show 3 ≤ 40000; decide) (fun _ => rfl) fun i x H1 e1 hi => ?_) (el_lst (by walk_at "ev") (by show 3 ≤ 100000; decide)))) (by decide +kernel)) (fun z => nomatch z) fun _ H1 e1 => ?_
    · have hi' : x = .int (1 + (i : Int)) ∧ i < 3 := by
        match i, hi with
        | 0, hi => exact ⟨(Option.some.inj hi).symm, by decide⟩
        | 1, hi => exact ⟨(Option.some.inj hi).symm, by decide⟩
        | 2, hi => exact ⟨(Option.some.inj hi).symm, by decide⟩
      obtain ⟨rfl, hi3⟩ := hi'
      refine eo_l (el_is (el_call (vs := [.int 1, .int (1 + (i : Int))]) (by walk_at "ev") (v_three_of (T := T) can1 (by omega) (by omega))) ?_)
      have : i = 0 ∨ i = 1 ∨ i = 2 := by omega
      rcases this with rfl | rfl | rfl <;> decide +kernel
    refine q_asgLI (P := fun _ => KCase) (n := 5) (eli_lst (fun _ => kcase_stab)
      (eai_cons kcase_stab (kc_new [1, 1] .non (by decide) (el_lst (by walk_at "ev") (by show 2 ≤ 100000; decide)) fun _ => ev_c)
      (eai_cons kcase_stab (kc_new [1, 2] (.int 1) (by decide) (el_lst (by walk_at "ev") (by show 2 ≤ 100000; decide)) fun _ => ev_c)
      (eai_cons kcase_stab (kc_new [2, 2] (.int 1) (by decide) (el_lst (by walk_at "ev") (by show 2 ≤ 100000; decide)) fun _ => ev_c)
      (eai_cons kcase_stab (kc_new [0, 0] (.int 1) (by decide) (el_lst (by walk_at "ev") (by show 2 ≤ 100000; decide)) fun _ => ev_c)
      (eai_cons kcase_stab (kc_new [1, 1, 7, 7] (.int 2) (by decide) (el_lst (by walk_at "ev") (by show 4 ≤ 100000; decide)) fun _ => ev_c) eai_nil))))) (by decide)) fun vs ra H2 hra e2 h2 hl2 hv2 => ?_
    change tSeq _ _ _ [some (.int rs), some (.ref ra), none, none, none, none, none, none, none, none, none, none] _
    refine q_forG (K := K) (P := fun _ => KCase) (n := vs.length + 1) (fun _ => kcase_stab) (elj_new (eli_cat (P := fun _ => KCase) (P' := fun _ => KCase) (fun _ => kcase_stab) (fun _ => kcase_stab) (elj_old (fun _ => kcase_stab) (ev_var rfl) h2 hv2)
      (elj_new (eli_lst (fun _ => kcase_stab) (eai_cons kcase_stab (kc_new [4, 2, 3, 2, 4, 3, 1, 1] .non (by decide) (el_lst (by walk_at "ev") (by show 8 ≤ 100000; decide)) fun _ => ev_c) eai_nil) (by decide))) (by omega) (fun _ _ _ _ h => h) (fun _ _ _ h => h)))
      (fun σ' => ∃ y2 y3 y4, σ' = [some (.int rs), some (.ref ra), y2, y3, y4, none, none, none, none, none, none, none]) ⟨_, _, _, rfl⟩ ?_ ?_
    · rintro i x σ' H' H0 hi e' e0 ⟨⟨ns, due⟩, hc, a, b, rfl, ha, hb⟩ ⟨y2, y3, y4, rfl⟩
      obtain ⟨rl, hgd⟩ := KC_ok _ hc
      dsimp only at rl hgd ha hb
      refine g_two (st_of ha) ?_
      refine q_asgQ (eq_toldV (T := T) (ev_var rfl) (sq_of hb) rl) fun v H3 e3 hv => ?_
      have hb3 := e3 _ _ hb
      rcases hgd with ⟨hg, rfl⟩ | ⟨hg, rfl⟩
      · rcases hv with ⟨_, p, dx, rfl, hp⟩ | ⟨hg', _⟩
        · refine q_when (b := false) (et_is (et_or (et_test (ev_op (ev_isi (ea_cons (ev_var rfl) (ea_cons ev_c ea_nil)) (.own T.c_Good) (T.i_Good.ty hp) T.kit_Good_Good) (ev_op (ev_var rfl) ev_c rv_isN) (rv_ne rfl))) fun _ => et_and (b := false) (et_test (ev_op (ev_var rfl) ev_c rv_notN)) fun z => by simp at z) (by simp)) (fun z => nomatch z) fun _ H4 e4 => ?_
          have hp4 := e4 _ _ hp
          exact s_when (b := false) (et_is (et_not (et_B (ev_callL1 (xs := [.bl (good ns)]) (el_lst (ea_cons (ev_orL (ev_methV hp4 (ev_var rfl) rfl (vs := [.ref b]) (ea_cons (ev_var rfl) ea_nil) (v_Good_shows (sq_of (e4 _ _ hb3)) (by have := rl.2.1; omega)))) ea_nil) (by show 1 ≤ 100000; decide)) fun q H5 e5 h5 => v_truths (sq_of h5)))) rfl) (fun z => nomatch z) fun _ H5 e5 => ⟨⟨_, _, _, rfl⟩, ((e0.trans e3).trans e4).trans e5⟩
        · rw [hg] at hg'
          cases hg'
      · rcases hv with ⟨hg', _⟩ | ⟨_, p, dx, rfl, hp⟩
        · rw [hg] at hg'
          cases hg'
        · refine q_when (b := false) (et_is (et_or (et_test (ev_op (ev_isi (ea_cons (ev_var rfl) (ea_cons ev_c ea_nil)) (.own T.c_Good) (T.i_Off.ty hp) T.kit_Off_Good) (ev_op (ev_var rfl) ev_c rv_isN) (rv_ne rfl))) fun _ => et_and (et_test (ev_op (ev_var rfl) ev_c rv_notN)) fun z => et_test (ev_op (ev_fld hp (ev_var rfl) T.i_Off.cl T.na_Off_number rfl) (ev_var rfl) (rv_ne rfl))) (by simp)) (fun z => nomatch z) fun _ H4 e4 => ?_
          have hp4 := e4 _ _ hp
          exact s_when (b := false) (et_is (et_not (et_B (ev_callL1 (xs := [.bl (off ns (offN ns))]) (el_lst (ea_cons (ev_orR (ev_methV hp4 (ev_var rfl) rfl (vs := [.ref b]) (ea_cons (ev_var rfl) ea_nil) (v_Off_shows (T := T) hp4 (sq_of (e4 _ _ hb3))))) ea_nil) (by show 1 ≤ 100000; decide)) fun q H5 e5 h5 => v_truths (sq_of h5)))) rfl) (fun z => nomatch z) fun _ H5 e5 => ⟨⟨_, _, _, rfl⟩, ((e0.trans e3).trans e4).trans e5⟩
    · rintro σ' H3 e3 ⟨y2, y3, y4, rfl⟩
      have e03 := (e1.trans e2).trans e3
      refine q_asgL (el_call (vs := [.int 4]) (by walk_at "ev") (v_row (T := T) can4 (by decide))) fun fa H4 hfa e4 h4 => ?_
      refine q_asgL (el_list (ev_var rfl) (sq_of h4)) fun ka H5 hka e5 h5 => ?_
      refine q_app (e5 _ _ h4) (ev_var rfl) ev_c (by rw [List.length_map, rowL_len]; decide) fun H6 e6 => ?_
      have nka : ka ≠ fa := fun z => by
        rw [z, h4] at hka
        cases hka
      have e36 : ∀ o, Ex H3 (upd H6 fa o) := fun o => Ex.mut ((e4.trans e5).trans e6) hfa
      have h6k : ∀ o, upd H6 fa o ka = some (.lst ((rowL 4).map V.int)) := fun o => by
        rw [upd_ne nka]
        exact e6 _ _ h5
      have e06 := fun o => e03.trans (e36 o)
      generalize hH7 : upd H6 fa (.lst ((rowL 4).map V.int ++ [.int 0])) = H7
      have h7k : H7 ka = some (.lst ((rowL 4).map V.int)) := by rw [← hH7]; exact h6k _
      have e07 : Ex H H7 := by rw [← hH7]; exact e06 _
      clear hH7 h6k e06 e36
      refine q_asgL (el_call (vs := [.int 4, .int 1]) (by walk_at "ev") (v_three_of (T := T) can4 (by decide) (by decide))) fun ta H8 hta e8 h8 => ?_
      refine q_clear h8 (ev_var rfl) fun H9 e9 => ?_
      have e79 : Ex H7 (upd H9 ta (.lst [])) := Ex.mut (e8.trans e9) hta
      have e09 := e07.trans e79
      have h9k := e79 _ _ h7k
      generalize upd H9 ta (.lst []) = HA at e09 h9k
      change tSeq _ _ _ [some (.int rs), some (.ref ra), y2, y3, y4, some (.ref fa), some (.ref ka), some (.ref ta), none, none, none, none] _
      refine q_when (b := false) (et_is (et_or (et_test (ev_opL1 (el_call (vs := [.int 4]) (by walk_at "ev") (v_row (T := T) can4 (by decide))) (fun _ _ => ev_var rfl) fun p H5 hp e5 => rv_neL (sq_of hp) (sq_of (e5 _ _ h9k)))) fun _ =>
        et_or (et_test (ev_op (ev_lenN (el_call (vs := [.int 4, .int 1]) (by walk_at "ev") (v_three_of (T := T) can4 (by decide) (by decide)))) ev_c (rv_ne rfl))) fun _ =>
        et_or (et_not (et_B (ev_isCan (T := T) (eq_can (T := T) (n := 4) (by walk_at "ev") (by decide)) T.kit_Can_Can T.kit_Barred_Can))) fun _ =>
        et_not (et_B (ev_isCan (T := T) (eq_can (T := T) (n := 2) (by walk_at "ev") (by decide)) T.kit_Can_Barred T.kit_Barred_Barred))) (by decide +kernel)) (fun z => nomatch z) fun _ HB eB => ?_
      have e10 : (10 : Int) ^ (50 : Int).toNat = 10 ^ 50 := by decide +kernel
      refine q_asg (v := .int (4 * 10 ^ 50 * 10 ^ 50 + rs)) (ev_op (ev_op (ev_op ev_c (ev_is (ev_op ev_c ev_c (rv_pow (by decide))) (by rw [e10])) (rv_mulL (by decide))) (ev_is (ev_op ev_c ev_c (rv_pow (by decide))) (by rw [e10])) (rv_mulX (m := 169) (n := 167) (bits_le (by decide +kernel)) (bits_le (by decide +kernel)) (by decide))) (ev_var rfl) rv_I0) fun HC eC => ?_
      generalize hgq : (4 * 10 ^ 50 * 10 ^ 50 + rs : Int) = g
      have g0 : 400 ≤ g := by omega
      have g4 : g % 4 = rs := by omega
      have e0C := (e09.trans eB).trans eC
      clear hgq
      refine q_when (b := false) (et_is (et_or (et_test (ev_op (ev_isCan (T := T) (eq_can (T := T) (n := g) (by walk_at "ev") (by omega)) T.kit_Can_Can T.kit_Barred_Can) (y := .bl (decide (g % 4 < 2))) (by walk_at "ev") (rv_ne rfl))) fun _ => et_test (ev_op (ev_canShows (n := g) (by omega) (by walk_at "ev") (by walk_at "ev") (by walk_at "ev") (by walk_at "ev")) ev_c rv_isntB)) ?_) (fun z => nomatch z) fun _ HD eD => ?_
      · cases decide (g % 4 < 2) <;> rfl
      refine q_when (b := decide (1 < g % 4)) (by walk_at "ev") (fun z HE eE => ?_) fun z HE eE => ?_
      · have z : 1 < g % 4 := of_decide_eq_true z
        have e0E := (e0C.trans eD).trans eE
        have tab0 : TabS HE T.p__law_known_right (lamq "_law_known_right" s__law_known_right) := TabS.nil (e0E _ _ hT)
        exact sb_ret (eb_ref T (js := [8]) (ps := ["_law_one"]) (fr := ["_law_great"]) (Pv := fun v _ => v = .int 0) T.c_NoRow tab0 (fun _ => rfl) (fun _ => rfl) (fun f c' => (lok_vx (x := "_law_one") (y := "_law_great") (ok_places_of T) T.g_places_of T.F_places_of.kp T.b_places_of (nscope_by (by dsimp only; decide +kernel)) rfl rfl (fun _ _ us hl => match us, hl with | [_], _ => rfl)).mono (by decide))
          (fun c' ok => Caps.made ok (ndef_free (sc := defScope s__law_known_right) (fr := []) (by decide +kernel)) (ndef_fr (sc := defScope s__law_known_right) (by decide +kernel)) rfl) stab_val (fun H1 _ => eq_val (by walk_at "ev") fun _ _ => rfl) (fun _ => ev_c)
          (fun v H1 hv Q E er => ⟨v, .int g, rfl, rfl, _, _, rfl, .inr (.inl (.inr ⟨g, rfl, by omega, z, er⟩))⟩) (.inr (.inl ⟨rfl, rfl⟩))) fun H2 e2 _ => k H2 ((ExB.of e0E).trans e2)
      · have z : ¬ 1 < g % 4 := of_decide_eq_false z
        have gc : Can g := ⟨by omega, by omega⟩
        have e0E := (e0C.trans eD).trans eE
        have n1 : 1 ≤ g / 3 := by omega
        have n2 : g / 3 ≤ g := by omega
        refine q_asgU (eu_call (vs := [.int g, .int (g / 3)]) (by walk_at "ev") (v_places_of (T := T) gc n1 n2)) fun c HF hc eF hF => ?_
        have fr := fst_rng gc n1 n2
        have na : num g (fst g (g / 3)) = g / 3 := num_at gc ⟨⟨n1, n2⟩, .inl rfl⟩
        have nb : num g (fst g (g / 3) + g / 3) = g / 3 := num_at gc ⟨⟨n1, n2⟩, .inr rfl⟩
        have bs : bas g (g / 3) = g / 3 := bas_low n2
        have e3' : three g (g / 3) = [g / 3, g + fst g (g / 3) + 1, g + fst g (g / 3) + 1 + g / 3] := by unfold three; rw [bs]
        generalize fst g (g / 3) = f at *
        generalize hn : g / 3 = n at *
        have dv : ∀ {σ : L2.St} {H : Hp}, σ[8]? = some (some (.int g)) → Ev (tOp (rI CDiv fun i j => .int (i / j)) (tVar 8) (tC (.int 3))) σ H (.int n) := fun h => ev_is (ev_op (ev_var h) ev_c (rv_div (by decide))) (by rw [hn])
        have ixT : ∀ (i : Nat) (v : Int) {H2 : Hp} {σ : L2.St}, Ex HF H2 → σ[9]? = some (some (.ref c)) → ([f, f + n] : List Int)[i]? = some v → Ev (tOp (rIxT K) (tVar 9) (tC (.int i))) σ H2 (.int v) := fun i v H2 σ e hv hi => ev_op (ev_var hv) ev_c (rv_ixT (st_of (e _ _ hF)) (atI_nat (j := i) (by
          show (([f, f + n] : List Int).map V.int)[i]? = _
          rw [List.getElem?_map, hi]; rfl)))
        refine q_when (b := false) (et_is (et_or (et_not (et_B (ev_isi (ea_cons (ev_var rfl) (ea_cons ev_c ea_nil)) (.ty "tuple") (tyx_st (K := K) (st_of hF)) (kit_ty (r := true) (by decide +kernel))))) fun _ => et_or (et_test (ev_op (ev_op (ixT 1 _ (Ex.refl _) rfl rfl) (ixT 0 _ (Ex.refl _) rfl rfl) rv_I0) (dv rfl) (rv_ne rfl))) fun _ => et_not (et_B (ev_call (vs := [.ref c]) (ea_cons (ev_var rfl) ea_nil) (v_plainT (ns := [f, f + n]) (st_of hF) (by show 2 ≤ 1000; decide))))) ?_) (fun z => nomatch z) fun _ HG eG => ?_
        · rw [show f + n - f = n by omega]
          simp
        refine q_asgL (xs := ([n, g + f + 1, g + f + 1 + n] : List Int).map V.int) (el_is (el_call (vs := [.int g, .int n]) (ea_cons (ev_var rfl) (ea_cons (dv rfl) ea_nil)) (v_three_of (T := T) gc n1 (by omega))) (by rw [e3'])) fun d HI hd eI hI => ?_
        have e0I := ((e0E.trans eF).trans eG).trans eI
        have hFI := (eG.trans eI) _ _ hF
        refine s_ret (v := .bl true) (ev_is (ev_andV (ev_opLL (xs := ([n, n] : List Int).map V.int) (ys := ([n, n] : List Int).map V.int) (el_is (el_lcT (xs := ([f, f + n] : List Int).map V.int) (fun _ => true) (fun i => .int n) (ev_var rfl) (st_of hFI) (by show 2 ≤ 40000; decide) (fun _ => rfl) (fun _ _ _ _ _ => et_yes) (fun i x H5 _ hi _ => ?_)) rfl) (el_is (el_rep (el_lst (ea_cons (dv rfl) ea_nil) (by show 1 ≤ 100000; decide)) ev_c (by decide) (by decide) (by show 1 * 2 ≤ 100000; decide)) rfl) fun p q H5 hp hq e5 => rv_eqL (sq_of hp) (sq_of hq)) fun _ =>
          ev_op (ev_cbL (xs := ([n, g + f + 1] : List Int).map V.int) (el_is (el_sl (lo := none) (hi := some ((2 : Nat) : Int)) (ev_var rfl) eo_none (eo_some ev_c) (sq_of hI)) (cut_take _ 2)) fun p H7 h7 e7 => rc_sum (sq_of h7)) (ev_op (ev_var rfl) ev_c (rv_ixL (sq_of hI) (atI_nat (j := 2) rfl))) (rv_eq rfl)) ?_) fun HJ eJ => k HJ (ExB.of (e0I.trans eJ))
        · match i, hi with
          | 0, hi =>
            obtain rfl : V.int f = x := Option.some.inj hi
            exact ev_is (ev_call (vs := [.int g, .int f]) (by walk_at "ev") (v_number_at (T := T) gc fr.1 (by omega))) (by rw [na])
          | 1, hi =>
            obtain rfl : V.int (f + n) = x := Option.some.inj hi
            exact ev_is (ev_call (vs := [.int g, .int (f + n)]) (by walk_at "ev") (v_number_at (T := T) gc (by omega) fr.2)) (by rw [nb])
          | i + 2, hi => cases hi
        · have es : ([n, g + f + 1] : List Int).sum = g + f + 1 + n := by
            simp only [List.sum_cons, List.sum_nil]
            omega
          rw [es]
          simp
end
end PA

set_option Elab.async false
set_option linter.all false
set_option maxRecDepth 100000
set_option maxHeartbeats 4000000
namespace PA
open PySem PySem.Spec PyProof.Rows L2 Evl LamX NdefX
local macro_rules | `(tactic| walk_at "ev") => `(tactic| repeat' (first | (with_reducible exact ev_c) | (with_reducible refine' ev_var ?_) | (show _ = some (some _); rfl) | (with_reducible exact ea_nil) | (with_reducible refine' ea_cons ?_ ?_) | (with_reducible refine' ev_abs ?_) | (with_reducible refine' ev_op ?_ ?_ ?_) | (with_reducible exact rv_I0) | (exact rv_mulL (by decide)) | (exact rv_mulR (by decide)) | (exact rv_div (by decide)) | (exact rv_mod (by decide)) | (exact rv_pow (by decide)) | (with_reducible refine' ev_un ?_ ?_) | (with_reducible exact ru_neg) | (exact rv_eq rfl) | (exact rv_ne rfl) | (with_reducible refine' et_test ?_) | (with_reducible refine' et_B ?_) | (exact ev_c) | (exact rv_I0) | (exact ru_neg) | (exact ea_nil) | (refine' ea_cons ?_ ?_)))
section
variable {K : PySem.W.Frag} {σ : L2.St} {H : Hp} {ta tb tc : TE} {D : Ends} {tu tz : TS} {j k m : Nat}
/-- over a list in a slot and two new ones, at once -/
theorem q_zip7 {a : Addr} {xs ys zs : List V} {n : Nat} (ha0 : H a = some (.lst xs)) (ha : Ev ta σ H (.ref a)) (hb : EvL tb σ H ys) (hc : EvL tc σ H zs) (hl : xs.length = n) (hl2 : xs.length = n) (S : L2.St → Prop) (h0 : S σ)
    (hs : ∀ (i : Nat) x y z σ' H' H0, Ex H H' → Ex H0 H' → xs[i]? = some x → ys[i]? = some y → zs[i]? = some z → S σ' → tu { D with nx := fun σ2 H2 => S σ2 ∧ Ex H0 H2, ct := fun σ2 H2 => S σ2 ∧ Ex H0 H2, bk := tz D } (((σ'.set j (some x)).set k (some y)).set m (some z)) H') (hd : ∀ σ' H', Ex H H' → S σ' → tz D σ' H')
    (hy : ys.length = n := by rfl) (hz : zs.length = n := by rfl) : tSeq (tFor (iZip3 K (tCons ta (tCons tb (tCons tc tNil)))) (gTup K 3 (gCons (gName j) (gCons (gName k) (gCons (gName m) gNil)))) tu) tz D σ H :=
  ha H (Ex.refl _) _ fun H1 e1 => hb H1 e1 _ fun b H2 _ e2 h2 => hc H2 (e1.trans e2) _ fun c H3 _ e3 h3 => ⟨a, b, c, xs, ys, zs, rfl, sq_of ((e1.trans (e2.trans e3)) _ _ ha0), sq_of (e3 _ _ h2), sq_of h3,
    for_zip3 (K := K) (xs := xs) (ys := ys) (zs := zs) (D := { D with nx := tz D }) (by rw [hl, hy]) (by rw [hl, hz]) (fun _ σ' H' => S σ' ∧ Ex H3 H') ⟨h0, Ex.refl _⟩ (fun i σ' H' w => ⟨sq_of (w.2 _ _ ((e1.trans (e2.trans e3)) _ _ ha0)), sq_of (w.2 _ _ (e3 _ _ h2)), sq_of (w.2 _ _ h3)⟩)
      (fun i x y z T σ' H' hx hy' hz' hT w => by
        have e := Ex.new (o := .tup [x, y, z]) hT
        exact ⟨T, _, rfl, st_of upd_same, rfl, x, _, rfl, y, _, rfl, z, _, rfl, rfl, hs i x y z σ' _ H3 (((e1.trans (e2.trans e3)).trans w.2).trans e) (w.2.trans e) hx hy' hz' w.1⟩)
      (fun σ' H' w => hd σ' H' ((e1.trans (e2.trans e3)).trans w.2) w.1)⟩
end
section
variable {P : Program} {w : World} {K : PySem.W.Frag} {mg : Str → Option Value} {base : Heap}
/-! ### lambdas in a list -/
/-- v is a lambda without captures that, asked with th, lets out an error of the class at C -/
def Lam7 (X : Cx) (T : Tx K mg) (C : Addr) (th : V) (v : V) (H : Hp) : Prop := ∃ (f : Addr) (F : LF) (ps : List Str) (sp : List (Option V) → Sp), v = .ref f ∧ H f = some (LamO f F) ∧ H F.c = some (CodeO F.c F.qual) ∧
  LOk X.prog X.w K mg X.base (L2N.CX X.prog X.w) 6 f F ps [] sp ∧ (X.Ok → Caps X F.cl [] []) ∧ ∀ H Q E, Err C H E → sp [] [th] H Q E
theorem lam7_ex {X : Cx} {T : Tx K mg} {C : Addr} {th : V} : Stab (Lam7 X T C th) := fun v H H' e h => by
  obtain ⟨f, F, ps, sp, r, h1, h2, h3⟩ := h
  exact ⟨f, F, ps, sp, r, e _ _ h1, e _ _ h2, h3⟩
theorem lam7_stb {X : Cx} {T : Tx K mg} {C Pt : Addr} {q : Str} {th : V} : StB Pt q (Lam7 X T C th) := fun v H H' e t h => by
  obtain ⟨f, F, ps, sp, r, h1, h2, h3⟩ := h
  exact ⟨f, F, ps, sp, r, exB_ne e t h1 (fun _ z => by unfold LamO at z; cases z), exB_ne e t h2 (fun ps => codeO_ne ps), h3⟩
theorem eqb_lam {X : Cx} (T : Tx K mg) {σ : L2.St} {H : Hp} {q : Str} {Pt C : Addr} {th : V} {mk : Addr → LF} {ps : List Str} {sp : List (Option V) → Sp} (hq : ∀ c', (mk c').qual = q) (hc : ∀ c', (mk c').c = c')
    (hL : ∀ f c', LOk X.prog X.w K mg X.base (L2N.CX X.prog X.w) 6 f (mk c') ps [] sp) (cp : ∀ c', X.Ok → Caps X (mk c').cl [] []) (hsp : ∀ H Q E, Err C H E → sp [] [th] H Q E) (tab : TabS H Pt q) : EvQB Pt q (tLamV Pt q mk) σ H (Lam7 X T C th) := fun Q k =>
  ⟨tab, fun f c' H1 e1 t1 hf h1 hcd => k _ H1 e1 t1 ⟨f, mk c', ps, sp, rfl, h1, by rw [hc, hq]; exact hcd, hL f c', cp c', hsp⟩⟩
/-- _law_refused(a lambda in a name, what is due) -/
theorem ev_refV (T : Tx K mg) {X : Cx} {σ : L2.St} {H : Hp} {ta tb tc : TE} {E : XK} {v th : V} {C : Addr} {d : Int} (ha : Ev ta σ H v) (hb : Ev tb σ H th) (hc : Ev tc σ H (.int d)) (hv : Lam7 X T C th v H) (hd : Refd T C d) : Ev (tCallF (sqR T X) E (tCons ta (tCons tb (tCons tc tNil)))) σ H (.bl true) := fun H1 e Q k =>
  ha H1 e _ fun H2 e2 => hb H2 (e.trans e2) _ fun H3 e3 => hc H3 ((e.trans e2).trans e3) _ fun H4 e4 => by
    have e5 := ((e.trans e2).trans e3).trans e4
    obtain ⟨f, F, ps, sp, rfl, h1, h2, hL, cp, hsp⟩ := lam7_ex _ _ _ e5 hv
    exact ⟨f, th, d, C, F, ps, [], [], sp, rfl, h1, h2, hL, cp, fun Q E er => hsp H4 Q E er, hd, fun H6 e6 => k H6 (((e2.trans e3).trans e4).trans e6)⟩
/-- what each of the seven is asked, and what it answers -/
def asks7 (T : Tx K mg) : List (Addr × Int × Int) := [(T.c_BadLast, 102, 0), (T.c_NoRow, 98, 1), (T.c_NoRow, 0, 1), (T.c_NoRow, -1, 1), (T.c_NoRow, 0, 1), (T.c_BadLast, 0, 0), (T.c_BadPlace, 8, 3)]
theorem asks7_ok (T : Tx K mg) {i : Nat} {c : Addr × Int × Int} (h : (asks7 T)[i]? = some c) : Refd T c.1 c.2.2 ∧ ([102, 98, 0, -1, 0, 0, 8] : List Int)[i]? = some c.2.1 ∧ ([0, 1, 1, 1, 1, 0, 3] : List Int)[i]? = some c.2.2 := by
  match i, h with
  | 0, h => obtain rfl := Option.some.inj h; exact ⟨.inl ⟨rfl, rfl⟩, rfl, rfl⟩
  | 1, h => obtain rfl := Option.some.inj h; exact ⟨.inr (.inl ⟨rfl, rfl⟩), rfl, rfl⟩
  | 2, h => obtain rfl := Option.some.inj h; exact ⟨.inr (.inl ⟨rfl, rfl⟩), rfl, rfl⟩
  | 3, h => obtain rfl := Option.some.inj h; exact ⟨.inr (.inl ⟨rfl, rfl⟩), rfl, rfl⟩
  | 4, h => obtain rfl := Option.some.inj h; exact ⟨.inr (.inl ⟨rfl, rfl⟩), rfl, rfl⟩
  | 5, h => obtain rfl := Option.some.inj h; exact ⟨.inl ⟨rfl, rfl⟩, rfl, rfl⟩
  | 6, h => obtain rfl := Option.some.inj h; exact ⟨.inr (.inr (.inr (.inl ⟨rfl, rfl⟩))), rfl, rfl⟩
def R7 (X : Cx) (T : Tx K mg) (i : Nat) (v : V) (H : Hp) : Prop := ∀ c, (asks7 T)[i]? = some c → Lam7 X T c.1 (.int c.2.1) v H
theorem r7_stb {X : Cx} {T : Tx K mg} {Pt : Addr} {q : Str} (i : Nat) : StB Pt q (R7 X T i) := fun v H H' e t h c hc => lam7_stb _ _ _ e t (h c hc)
theorem eqb_r7 {X : Cx} {T : Tx K mg} {σ : L2.St} {H : Hp} {q : Str} {Pt : Addr} {te : TE} {i : Nat} (C : Addr) (a d : Int) (hi : (asks7 T)[i]? = some (C, a, d)) (h : EvQB Pt q te σ H (Lam7 X T C (.int a))) : EvQB Pt q te σ H (R7 X T i) := fun Q k => h Q fun v H2 e2 t2 hv => k v H2 e2 t2 fun c hc => by
  rw [hi] at hc
  obtain rfl := Option.some.inj hc
  exact hv
/-- no number to be named here: no whole number, or one of which B holds -/
def BadF (B : Int → Prop) (v : V) : Prop := v = .bl true ∨ v = .non ∨ (∃ s, v = .str s) ∨ ∃ n, v = .int n ∧ B n
theorem BadF.bad {B : Int → Prop} {v : V} (h : BadF B v) (H : Hp) : BadV K H v B := by
  rcases h with rfl | rfl | ⟨s, rfl⟩ | ⟨n, rfl, h⟩
  · exact .inl ⟨"bool", .base (.bl true), num_bool⟩
  · exact .inl ⟨"NoneType", .base .non, num_none⟩
  · exact .inl ⟨"str", .base (.str s), num_str⟩
  · exact .inr ⟨n, rfl, h⟩
theorem badF_stab {B : Int → Prop} (i : Nat) : Stab ((fun (_ : Nat) v (_ : Hp) => BadF B v) i) := fun _ _ _ _ h => h
theorem badF_stb {B : Int → Prop} {Pt : Addr} {q : Str} (i : Nat) : StB Pt q ((fun (_ : Nat) v (_ : Hp) => BadF B v) i) := fun _ _ _ _ _ h => h
theorem bf_bl {B : Int → Prop} {σ : L2.St} {H : Hp} : EvQ (tC (.bl true)) σ H (fun v _ => BadF B v) := eq_val ev_c fun _ _ => .inl rfl
theorem bf_non {B : Int → Prop} {σ : L2.St} {H : Hp} : EvQ (tC .non) σ H (fun v _ => BadF B v) := eq_val ev_c fun _ _ => .inr (.inl rfl)
theorem bf_str {B : Int → Prop} {σ : L2.St} {H : Hp} {s : Str} : EvQ (tC (.str s)) σ H (fun v _ => BadF B v) := eq_val ev_c fun _ _ => .inr (.inr (.inl ⟨s, rfl⟩))
theorem bf_int {B : Int → Prop} {σ : L2.St} {H : Hp} {n : Int} (h : B n) : EvQ (tC (.int n)) σ H (fun v _ => BadF B v) := eq_val ev_c fun _ _ => .inr (.inr (.inr ⟨n, rfl, h⟩))
/-- no row, by what it is -/
def NoB (v : V) (H : Hp) : Prop := v = .non ∨ (∃ a xs, v = .ref a ∧ H a = some (.tup xs)) ∨ ∃ a xs, v = .ref a ∧ H a = some (.lst xs) ∧ ¬ RowLen xs.length
theorem NoB.bad {v : V} {H : Hp} (h : NoB v H) : NoRowV K H v := by
  rcases h with rfl | ⟨a, xs, rfl, h⟩ | ⟨a, xs, rfl, h, hl⟩
  · exact .inl ⟨"NoneType", .base .non, kl_none⟩
  · exact .inl ⟨"tuple", .base (.tup h), kl_tuple⟩
  · exact .inr (.inl ⟨a, xs, rfl, sq_of h, hl⟩)
theorem noB_stab (i : Nat) : Stab ((fun (_ : Nat) => NoB) i) := fun v H H' e h => by
  rcases h with rfl | ⟨a, xs, rfl, h⟩ | ⟨a, xs, rfl, h, hl⟩
  · exact .inl rfl
  · exact .inr (.inl ⟨a, xs, rfl, e _ _ h⟩)
  · exact .inr (.inr ⟨a, xs, rfl, e _ _ h, hl⟩)
theorem noB_stb {Pt : Addr} {q : Str} (i : Nat) : StB Pt q ((fun (_ : Nat) => NoB) i) := fun v H H' e t h => by
  rcases h with rfl | ⟨a, xs, rfl, h⟩ | ⟨a, xs, rfl, h, hl⟩
  · exact .inl rfl
  · exact .inr (.inl ⟨a, xs, rfl, exB_ne e t h fun _ z => nomatch z⟩)
  · exact .inr (.inr ⟨a, xs, rfl, exB_ne e t h (fun _ z => nomatch z), hl⟩)
theorem nb_lst {σ : L2.St} {H : Hp} {te : TE} {xs : List V} (h : EvL te σ H xs) (hl : ¬ RowLen xs.length) : EvQ te σ H NoB := eq_lst h fun p H1 h1 => .inr (.inr ⟨p, xs, rfl, h1, hl⟩)
theorem nb_rep {σ : L2.St} {H : Hp} {te tb : TE} (n : Nat) (h : EvL te σ H [.int 1]) (hb : Ev tb σ H (.int (n : Int))) (h0 : n ≤ 1000) (hl : ¬ RowLen n) : EvQ (tOp rRep te tb) σ H NoB := by
  refine nb_lst (xs := List.replicate n (.int 1)) (el_is (el_rep h hb (by omega) (by omega) (by show 1 * _ ≤ 100000; omega)) ?_) (by rw [List.length_replicate]; exact hl)
  rw [rep_one, show ((n : Int)).toNat = n by omega]
/-- [1] * spot + [bad] + [2] * (399 - spot) -/
theorem nr_spot {σ : L2.St} {H : Hp} {t1 t2 t3 ts tr : TE} {sp : Int} {bad : V} (h0 : 0 ≤ sp) (h1 : sp ≤ 399) (hb : Num K H bad false) (e1 : EvL t1 σ H [.int 1]) (es : Ev ts σ H (.int sp)) (e2 : EvL t2 σ H [bad]) (e3 : EvL t3 σ H [.int 2]) (er : Ev tr σ H (.int (399 - sp))) :
    EvQ (tOp rCat (tOp rCat (tOp rRep t1 ts) t2) (tOp rRep t3 tr)) σ H (fun v H => NoRowV K H v) := by
  have la : ((List.replicate sp.toNat [V.int 1]).flatten).length = sp.toNat := by rw [rep_one, List.length_replicate]
  have lb : ((List.replicate (399 - sp).toNat [V.int 2]).flatten).length = (399 - sp).toNat := by rw [rep_one, List.length_replicate]
  have hc := el_cat (at_new (el_cat (at_new (el_rep e1 es h0 (by omega) (by show 1 * _ ≤ 100000; omega))) (at_new e2) (by rw [la]; show sp.toNat + 1 ≤ 100000; omega))) (at_new (el_rep e3 er (by omega) (by omega) (by show 1 * _ ≤ 100000; omega))) (by rw [List.length_append, la, lb]; show sp.toNat + 1 + _ ≤ 100000; omega)
  have len : ((List.replicate sp.toNat [V.int 1]).flatten ++ [bad] ++ (List.replicate (399 - sp).toNat [V.int 2]).flatten).length = 400 := by
    rw [List.length_append, List.length_append, la, lb]
    show sp.toNat + 1 + _ = 400
    omega
  intro H1 e Q q
  refine hc H1 e _ fun p H2 hp e12 h2 => q _ H2 e12 (.inr (.inr ⟨p, _, fun i => decide (i ≠ sp.toNat), rfl, sq_of h2, by rw [len]; decide, fun i x hi => ?_, sp.toNat, by rw [len]; omega, decide_eq_false fun z => z rfl⟩))
  rw [rep_one, rep_one] at hi
  show Num K H2 x (decide (i ≠ sp.toNat))
  rcases Nat.lt_trichotomy i sp.toNat with c | c | c
  · rw [List.getElem?_append_left (by rw [List.length_append, List.length_replicate]; omega), List.getElem?_append_left (by rw [List.length_replicate]; omega), List.getElem?_replicate, if_pos c] at hi
    obtain rfl := Option.some.inj hi
    rw [decide_eq_true (p := i ≠ _) (by omega)]
    exact Num.int 1
  · rw [List.getElem?_append_left (by rw [List.length_append, List.length_replicate]; show i < sp.toNat + 1; omega), List.getElem?_append_right (by rw [List.length_replicate]; omega), List.length_replicate, show i - sp.toNat = 0 by omega] at hi
    obtain rfl : bad = x := Option.some.inj hi
    rw [decide_eq_false (p := i ≠ _) (fun z => z c)]
    exact hb.ex (e.trans e12)
  · rw [List.getElem?_append_right (by rw [List.length_append, List.length_replicate]; show sp.toNat + 1 ≤ i; omega), List.getElem?_replicate] at hi
    split at hi
    · obtain rfl := Option.some.inj hi
      rw [decide_eq_true (p := i ≠ _) (by omega)]
      exact Num.int 2
    · cases hi
/-! ### _law_first_right -/
def sp__law_first_right (T : Tx K mg) : Sp := fun vs H Q _ => ∃ wh : Int, vs = [.int wh] ∧ 0 ≤ wh ∧ H T.p__law_first_right = some (.tbl #[]) ∧ ∀ H', Q (.bl true) H'
theorem can_4 : Can 4 := by unfold Can; decide
abbrev cxF (P : Program) (w : World) (K : PySem.W.Frag) (mg : Str → Option Value) (base : Heap) (T : Tx K mg) (A : Around) (outer : List Env) (s : Shared) (H : Hp) (E : XK) : Cx := (cxOf CX0 P w K mg base N__law_first_right "_law_first_right" (defScope s__law_first_right) T.a__law_first_right (.ref T.q__law_first_right) A outer s H E).nox
theorem ok__law_first_right (T : Tx K mg) (TB : TabB base mg T.q__law_first_right T.p__law_first_right) : FnOk P w K mg base CX0 8 T.a__law_first_right T.d__law_first_right ["_law_whole"] (sp__law_first_right T) := by
  refine okC T.C__law_first_right sc__law_first_right (fun vs H Q E h => ?_) (fun A outer s H vs Q E hr h => ?_)
  · obtain ⟨wh, rfl, _⟩ := h
    rfl
  · obtain ⟨wh, rfl, w0, hT, k⟩ := h
    refine ⟨_, (pss_cons (ps_set (i := 1) sc__law_first_right.nd rfl (.inl rfl) (pe_lst (pa_cons (pe_lam (q := lamq "_law_first_right" s__law_first_right) TB rfl rfl rfl (NdefX.ndef_free (sc := defScope s__law_first_right) (fr := []) (by decide +kernel))) (pa_cons (pe_lam (q := lamq "_law_first_right" s__law_first_right) TB rfl rfl rfl (NdefX.ndef_free (sc := defScope s__law_first_right) (fr := []) (by decide +kernel))) (pa_cons (pe_lam (q := lamq "_law_first_right" s__law_first_right) TB rfl rfl rfl (NdefX.ndef_free (sc := defScope s__law_first_right) (fr := []) (by decide +kernel))) pa_nil)))))
      (pss_cons (ps_set (i := 1) sc__law_first_right.nd rfl (.inl rfl) (pe_op op_cat (pv 1) (pe_lst (pa_cons (pe_lam (q := lamq "_law_first_right" s__law_first_right) TB rfl rfl rfl (NdefX.ndef_free (sc := defScope s__law_first_right) (fr := []) (by decide +kernel))) pa_nil))))
      (pss_cons (ps_set (i := 1) sc__law_first_right.nd rfl (.inl rfl) (pe_op op_cat (pv 1) (pe_lst (pa_cons (pe_lam (q := lamq "_law_first_right" s__law_first_right) TB rfl rfl rfl (NdefX.ndef_free (sc := defScope s__law_first_right) (fr := []) (by decide +kernel))) (pa_cons (pe_lam (q := lamq "_law_first_right" s__law_first_right) TB rfl rfl rfl (NdefX.ndef_free (sc := defScope s__law_first_right) (fr := []) (by decide +kernel))) (pa_cons (pe_lam (q := lamq "_law_first_right" s__law_first_right) TB rfl rfl rfl (NdefX.ndef_free (sc := defScope s__law_first_right) (fr := []) (by decide +kernel))) pa_nil))))))
      (pss_cons (ps_for PassesOwn.never rfl (pi_zip3 (by rfl) T.m_zip (pa_cons (pv 1) (pa_cons (pe_lst (pa_cons pe_int (pa_cons pe_int (pa_cons pe_int (pa_cons (pe_un un_neg pe_int) (pa_cons pe_int (pa_cons pe_int (pa_cons pe_int pa_nil)))))))) (pa_cons (pe_lst (pa_cons pe_int (pa_cons pe_int (pa_cons pe_int (pa_cons pe_int (pa_cons pe_int (pa_cons pe_int (pa_cons pe_int pa_nil)))))))) pa_nil)))) (pg_tup rfl (pgs_cons (pg_name (i := 2) sc__law_first_right.nd rfl (Or.inl rfl)) (pgs_cons (pg_name (i := 3) sc__law_first_right.nd rfl (Or.inl rfl)) (pgs_cons (pg_name (i := 4) sc__law_first_right.nd rfl (Or.inl rfl)) pgs_nil))))
      (pss_one (ps_if (pt_not (pt_val (pe_callF (ok__law_refused T) (hr.mono (by decide)) (by rfl) T.g__law_refused T.F__law_refused.kp T.b__law_refused pass0 (ref_hs T) (pa_cons (pv 2) (pa_cons (pv 3) (pa_cons (pv 4) pa_nil)))))) (pss_one (ps_ret pe_bl)) pss_nil)))
      (pss_cons (ps_for PassesOwn.never rfl (pi_list (pe_lst (pa_cons pe_bl (pa_cons pe_int (pa_cons pe_int (pa_cons pe_non (pa_cons pe_str pa_nil))))))) (pg_name (i := 5) sc__law_first_right.nd rfl (Or.inl rfl))
      (pss_one (ps_if (pt_not (pt_val (pe_callF (ok__law_refused T) (hr.mono (by decide)) (by rfl) T.g__law_refused T.F__law_refused.kp T.b__law_refused pass0 (ref_hs T) (pa_cons (pe_lam (q := lamq "_law_first_right" s__law_first_right) TB rfl rfl rfl (NdefX.ndef_free (sc := defScope s__law_first_right) (fr := []) (by decide +kernel))) (pa_cons (pv 5) (pa_cons pe_int pa_nil)))))) (pss_one (ps_ret pe_bl)) pss_nil)))
      (pss_cons (ps_for PassesOwn.never rfl (pi_list (pe_lst (pa_cons pe_bl (pa_cons pe_int (pa_cons pe_int (pa_cons pe_non pa_nil)))))) (pg_name (i := 5) sc__law_first_right.nd rfl (Or.inl rfl))
      (pss_one (ps_if (pt_not (pt_val (pe_callF (ok__law_refused T) (hr.mono (by decide)) (by rfl) T.g__law_refused T.F__law_refused.kp T.b__law_refused pass0 (ref_hs T) (pa_cons (pe_lam (q := lamq "_law_first_right" s__law_first_right) TB rfl rfl rfl (NdefX.ndef_free (sc := defScope s__law_first_right) (fr := []) (by decide +kernel))) (pa_cons (pv 5) (pa_cons pe_int pa_nil)))))) (pss_one (ps_ret pe_bl)) pss_nil)))
      (pss_cons (ps_for PassesOwn.never rfl (pi_list (pe_lst (pa_cons pe_bl (pa_cons pe_int (pa_cons (pe_un un_neg pe_int) (pa_cons pe_non (pa_cons pe_str pa_nil))))))) (pg_name (i := 5) sc__law_first_right.nd rfl (Or.inl rfl))
      (pss_one (ps_if (pt_not (pt_val (pe_callF (ok__law_refused T) (hr.mono (by decide)) (by rfl) T.g__law_refused T.F__law_refused.kp T.b__law_refused pass0 (ref_hs T) (pa_cons (pe_lam (q := lamq "_law_first_right" s__law_first_right) TB rfl rfl rfl (NdefX.ndef_free (sc := defScope s__law_first_right) (fr := []) (by decide +kernel))) (pa_cons (pv 5) (pa_cons pe_int pa_nil)))))) (pss_one (ps_ret pe_bl)) pss_nil)))
      (pss_cons (ps_for PassesOwn.never rfl (pi_list (pe_lst (pa_cons (pe_op op_mod (pv 0) pe_int) (pa_cons pe_int (pa_cons pe_int pa_nil))))) (pg_name (i := 6) sc__law_first_right.nd rfl (Or.inl rfl))
      (pss_one (ps_for PassesOwn.never rfl (pi_list (pe_lst (pa_cons pe_bl (pa_cons pe_non (pa_cons pe_str pa_nil))))) (pg_name (i := 5) sc__law_first_right.nd rfl (Or.inl rfl))
      (pss_one (ps_if (pt_not (pt_val (pe_callF (ok__law_refused T) (hr.mono (by decide)) (by rfl) T.g__law_refused T.F__law_refused.kp T.b__law_refused pass0 (ref_hs T) (pa_cons (pe_lam (q := lamq "_law_first_right" s__law_first_right) TB rfl rfl rfl (NdefX.ndef_free (sc := defScope s__law_first_right) (fr := []) (by decide +kernel))) (pa_cons (pe_op op_cat (pe_op op_cat (pe_op op_rep (pe_lst (pa_cons pe_int pa_nil)) (pv 6)) (pe_lst (pa_cons (pv 5) pa_nil))) (pe_op op_rep (pe_lst (pa_cons pe_int pa_nil)) (pe_op op_sub pe_int (pv 6)))) (pa_cons pe_int pa_nil)))))) (pss_one (ps_ret pe_bl)) pss_nil)))))
      (pss_cons (ps_for PassesOwn.never rfl (pi_list (pe_lst (pa_cons (pe_op op_rep (pe_lst (pa_cons pe_int pa_nil)) pe_int) (pa_cons (pe_lst (pa_cons pe_int pa_nil)) (pa_cons (pe_lst pa_nil) (pa_cons (pe_tup (pa_cons pe_int (pa_cons pe_int pa_nil))) (pa_cons pe_non (pa_cons (pe_op op_rep (pe_lst (pa_cons pe_int pa_nil)) pe_int) pa_nil)))))))) (pg_name (i := 5) sc__law_first_right.nd rfl (Or.inl rfl))
      (pss_one (ps_if (pt_not (pt_val (pe_callF (ok__law_refused T) (hr.mono (by decide)) (by rfl) T.g__law_refused T.F__law_refused.kp T.b__law_refused pass0 (ref_hs T) (pa_cons (pe_lam (q := lamq "_law_first_right" s__law_first_right) TB rfl rfl rfl (NdefX.ndef_free (sc := defScope s__law_first_right) (fr := []) (by decide +kernel))) (pa_cons (pv 5) (pa_cons pe_int pa_nil)))))) (pss_one (ps_ret pe_bl)) pss_nil)))
      (pss_one (ps_ret pe_bl))))))))))), ?_⟩
    have tab0 : TabS H T.p__law_first_right (lamq "_law_first_right" s__law_first_right) := TabS.nil hT
    have R7s := fun i => r7_stb (X := cxF P w K mg base T A outer s H E) (T := T) (Pt := T.p__law_first_right) (q := lamq "_law_first_right" s__law_first_right) i
    refine q_asgAB (R := R7 (cxF P w K mg base T A outer s H E) T) (n := 3) R7s (eab_cons (R7s 0) (eqb_r7 T.c_BadLast (102) 0 rfl (eqb_lam T (fun _ => rfl) (fun _ => rfl) (fun f c' => (lok_x (x := "_law_one") (ok_row T) T.g_row T.F_row.kp T.b_row (nscope_by (by dsimp only; decide +kernel)) rfl rfl (fun _ _ us hl => match us, hl with | [_], _ => rfl)).mono (by decide)) (fun c' ok => Caps.made ok (ndef_free (sc := defScope s__law_first_right) (fr := []) (by decide +kernel)) (ndef_fr (sc := defScope s__law_first_right) (by decide +kernel)) rfl) (fun H Q E er => ⟨_, rfl, _, rfl, .inr (.inl ⟨.inr ⟨_, rfl, by decide⟩, er⟩)⟩) tab0)) fun _ t => eab_cons (R7s 1) (eqb_r7 T.c_NoRow (98) 1 rfl (eqb_lam T (fun _ => rfl) (fun _ => rfl) (fun f c' => (lok_x (x := "_law_two") (ok_row T) T.g_row T.F_row.kp T.b_row (nscope_by (by dsimp only; decide +kernel)) rfl rfl (fun _ _ us hl => match us, hl with | [_], _ => rfl)).mono (by decide)) (fun c' ok => Caps.made ok (ndef_free (sc := defScope s__law_first_right) (fr := []) (by decide +kernel)) (ndef_fr (sc := defScope s__law_first_right) (by decide +kernel)) rfl) (fun H Q E er => ⟨_, rfl, _, rfl, .inr (.inr ⟨_, rfl, by decide, by decide, by decide, er⟩)⟩) t)) fun _ t => eab_cons (R7s 2) (eqb_r7 T.c_NoRow (0) 1 rfl (eqb_lam T (fun _ => rfl) (fun _ => rfl) (fun f c' => (lok_cx (x := "_law_three") (ok_places_of T) T.g_places_of T.F_places_of.kp T.b_places_of (nscope_by (by dsimp only; decide +kernel)) rfl rfl (fun _ _ us hl => match us, hl with | [_], _ => rfl)).mono (by decide)) (fun c' ok => Caps.made ok (ndef_free (sc := defScope s__law_first_right) (fr := []) (by decide +kernel)) (ndef_fr (sc := defScope s__law_first_right) (by decide +kernel)) rfl) (fun H Q E er => ⟨_, rfl, _, _, rfl, .inr (.inl (.inr ⟨_, rfl, by decide, by decide, er⟩))⟩) t)) fun _ t => eab_nil t) (by decide) fun v1 p1 H1 e1 t1 h1 l1 r1 => ?_
    refine q_catAB (R := R7 (cxF P w K mg base T A outer s H E) T) (m := 3) (n := 1) R7s t1 (ev_var rfl) h1 l1 r1 (fun _ t => eab_cons (R7s 3) (eqb_r7 T.c_NoRow (-1) 1 rfl (eqb_lam T (fun _ => rfl) (fun _ => rfl) (fun f c' => (lok_cx (x := "_law_four") (ok_number_at T) T.g_number_at T.F_number_at.kp T.b_number_at (nscope_by (by dsimp only; decide +kernel)) rfl rfl (fun _ _ us hl => match us, hl with | [_], _ => rfl)).mono (by decide)) (fun c' ok => Caps.made ok (ndef_free (sc := defScope s__law_first_right) (fr := []) (by decide +kernel)) (ndef_fr (sc := defScope s__law_first_right) (by decide +kernel)) rfl) (fun H Q E er => ⟨_, rfl, _, _, rfl, .inr (.inl (.inr ⟨_, rfl, by decide, by decide, er⟩))⟩) t)) fun _ t => eab_nil t) (by decide) fun v2 p2 H2 e2 t2 h2 l2 r2 => ?_
    refine q_catAB (R := R7 (cxF P w K mg base T A outer s H E) T) (m := 3 + 1) (n := 3) R7s t2 (ev_var rfl) h2 l2 r2 (fun _ t => eab_cons (R7s 4) (eqb_r7 T.c_NoRow (0) 1 rfl (eqb_lam T (fun _ => rfl) (fun _ => rfl) (fun f c' => (lok_cx (x := "_law_five") (ok_three_of T) T.g_three_of T.F_three_of.kp T.b_three_of (nscope_by (by dsimp only; decide +kernel)) rfl rfl (fun _ _ us hl => match us, hl with | [_], _ => rfl)).mono (by decide)) (fun c' ok => Caps.made ok (ndef_free (sc := defScope s__law_first_right) (fr := []) (by decide +kernel)) (ndef_fr (sc := defScope s__law_first_right) (by decide +kernel)) rfl) (fun H Q E er => ⟨_, rfl, _, _, rfl, .inr (.inl (.inr ⟨_, rfl, by decide, by decide, er⟩))⟩) t)) fun _ t => eab_cons (R7s 5) (eqb_r7 T.c_BadLast (0) 0 rfl (eqb_lam T (fun _ => rfl) (fun _ => rfl) (fun f c' => (lok_cx (x := "_law_six") (ok_places_of T) T.g_places_of T.F_places_of.kp T.b_places_of (nscope_by (by dsimp only; decide +kernel)) rfl rfl (fun _ _ us hl => match us, hl with | [_], _ => rfl)).mono (by decide)) (fun c' ok => Caps.made ok (ndef_free (sc := defScope s__law_first_right) (fr := []) (by decide +kernel)) (ndef_fr (sc := defScope s__law_first_right) (by decide +kernel)) rfl) (fun H Q E er => ⟨_, rfl, _, _, rfl, .inr (.inl (.inl ⟨.inr ⟨_, rfl, by decide⟩, er⟩))⟩) t)) fun _ t => eab_cons (R7s 6) (eqb_r7 T.c_BadPlace (8) 3 rfl (eqb_lam T (fun _ => rfl) (fun _ => rfl) (fun f c' => (lok_cx (x := "_law_seven") (ok_number_at T) T.g_number_at T.F_number_at.kp T.b_number_at (nscope_by (by dsimp only; decide +kernel)) rfl rfl (fun _ _ us hl => match us, hl with | [_], _ => rfl)).mono (by decide)) (fun c' ok => Caps.made ok (ndef_free (sc := defScope s__law_first_right) (fr := []) (by decide +kernel)) (ndef_fr (sc := defScope s__law_first_right) (by decide +kernel)) rfl) (fun H Q E er => ⟨_, rfl, _, _, rfl, .inr (.inr ⟨_, rfl, can_4, .inr ⟨_, rfl, .inr (by decide)⟩, er⟩)⟩) t)) fun _ t => eab_nil t) (by decide) fun v3 p3 H3 e3 t3 h3 l3 r3 => ?_
    change tSeq _ _ _ [some (.int wh), some (.ref p3), none, none, none, none, none] _
    refine q_zip7 (K := K) (xs := v3) (ys := ([102, 98, 0, -1, 0, 0, 8] : List Int).map V.int) (zs := ([0, 1, 1, 1, 1, 0, 3] : List Int).map V.int) h3 (ev_var rfl) (el_lst (by walk_at "ev") (by show 7 ≤ 100000; decide)) (el_lst (by walk_at "ev") (by show 7 ≤ 100000; decide)) l3 l3 (fun σ' => ∃ y2 y3 y4, σ' = [some (.int wh), some (.ref p3), y2, y3, y4, none, none]) ⟨_, _, _, rfl⟩ ?_ ?_
    · rintro i x y z σ' H' H0 e' e0 hx hy hz ⟨y2, y3, y4, rfl⟩
      have li := lt_of hx
      have hc : (asks7 T)[i]? = some (asks7 T)[i] := List.getElem?_eq_getElem (by rw [l3] at li; exact li)
      generalize (asks7 T)[i]'(by rw [l3] at li; exact li) = c at hc
      obtain ⟨hd, ha, hb⟩ := asks7_ok T hc
      rw [List.getElem?_map, ha] at hy
      rw [List.getElem?_map, hb] at hz
      obtain rfl : V.int c.2.1 = y := Option.some.inj hy
      obtain rfl : V.int c.2.2 = z := Option.some.inj hz
      exact s_when (b := false) (et_is (et_not (et_B (ev_refV T (ev_var rfl) (ev_var rfl) (ev_var rfl) (lam7_ex _ _ _ e' (r3 i x hx c hc)) hd))) rfl) (fun z => nomatch z) fun _ H5 e5 => ⟨⟨_, _, _, rfl⟩, e0.trans e5⟩
    rintro σ' H4 e4 ⟨y2, y3, y4, rfl⟩
    have t4 := tabS_ex t3 e4
    refine q_forB (K := K) (P := fun _ v _ => BadF (fun n => n < 1 ∨ 4 < n) v) (n := 5) (fun i v H0 H1 => badF_stb i v H0 H1) (elj_new (eli_lst badF_stab (eai_cons (badF_stab 0) bf_bl (eai_cons (badF_stab 0) (bf_int (by decide)) (eai_cons (badF_stab 0) (bf_int (by decide)) (eai_cons (badF_stab 0) bf_non (eai_cons (badF_stab 0) bf_str eai_nil))))) (by decide))) t4 (fun σ' => ∃ y5, σ' = [some (.int wh), some (.ref p3), y2, y3, y4, y5, none]) ⟨_, rfl⟩ ?_ ?_
    · rintro i x σ' H' H0 hi e' e0 t' hx ⟨y5, rfl⟩
      refine sb_skip (eb_notB (eb_ref T (js := []) (fr := []) (Pv := fun v _ => v = x) T.c_BadNumber t' (fun _ => rfl) (fun _ => rfl) (fun f c' => (lok_cx (x := "_law_one") (ok_places_of T) T.g_places_of T.F_places_of.kp T.b_places_of (nscope_by (by dsimp only; decide +kernel)) rfl rfl (fun _ _ us hl => match us, hl with | [_], _ => rfl)).mono (by decide)) (fun c' ok => Caps.made ok (ndef_free (sc := defScope s__law_first_right) (fr := []) (by decide +kernel)) (ndef_fr (sc := defScope s__law_first_right) (by decide +kernel)) rfl) stab_val (fun H1 _ => eq_val (ev_var rfl) fun _ _ => rfl) (fun _ => ev_c) (fun v H1 hv Q E er => by
        subst hv
        exact ⟨_, rfl, _, _, rfl, .inr (.inr ⟨_, rfl, can_4, hx.bad H1, er⟩)⟩) (.inr (.inr (.inl ⟨rfl, rfl⟩))))) fun H1 e1 t1 => ⟨⟨_, rfl⟩, e0.trans e1, t1⟩
    rintro σ' H5 e5 t5 ⟨y5, rfl⟩
    refine q_forB (K := K) (P := fun _ v _ => BadF (fun n => n < 1 ∨ 3 * 4 < n) v) (n := 4) (fun i v H0 H1 => badF_stb i v H0 H1) (elj_new (eli_lst badF_stab (eai_cons (badF_stab 0) bf_bl (eai_cons (badF_stab 0) (bf_int (by decide)) (eai_cons (badF_stab 0) (bf_int (by decide)) (eai_cons (badF_stab 0) bf_non eai_nil)))) (by decide))) t5 (fun σ' => ∃ y5, σ' = [some (.int wh), some (.ref p3), y2, y3, y4, y5, none]) ⟨_, rfl⟩ ?_ ?_
    · rintro i x σ' H' H0 hi e' e0 t' hx ⟨y5, rfl⟩
      refine sb_skip (eb_notB (eb_ref T (js := []) (fr := []) (Pv := fun v _ => v = x) T.c_BadNumber t' (fun _ => rfl) (fun _ => rfl) (fun f c' => (lok_cx (x := "_law_one") (ok_three_of T) T.g_three_of T.F_three_of.kp T.b_three_of (nscope_by (by dsimp only; decide +kernel)) rfl rfl (fun _ _ us hl => match us, hl with | [_], _ => rfl)).mono (by decide)) (fun c' ok => Caps.made ok (ndef_free (sc := defScope s__law_first_right) (fr := []) (by decide +kernel)) (ndef_fr (sc := defScope s__law_first_right) (by decide +kernel)) rfl) stab_val (fun H1 _ => eq_val (ev_var rfl) fun _ _ => rfl) (fun _ => ev_c) (fun v H1 hv Q E er => by
        subst hv
        exact ⟨_, rfl, _, _, rfl, .inr (.inr ⟨_, rfl, can_4, hx.bad H1, er⟩)⟩) (.inr (.inr (.inl ⟨rfl, rfl⟩))))) fun H1 e1 t1 => ⟨⟨_, rfl⟩, e0.trans e1, t1⟩
    rintro σ' H6 e6 t6 ⟨y5, rfl⟩
    refine q_forB (K := K) (P := fun _ v _ => BadF (· < 1) v) (n := 5) (fun i v H0 H1 => badF_stb i v H0 H1) (elj_new (eli_lst badF_stab (eai_cons (badF_stab 0) bf_bl (eai_cons (badF_stab 0) (bf_int (by decide)) (eai_cons (badF_stab 0) (eq_val (v := .int (-1)) (by walk_at "ev") fun _ _ => .inr (.inr (.inr ⟨_, rfl, by decide⟩))) (eai_cons (badF_stab 0) bf_non (eai_cons (badF_stab 0) bf_str eai_nil))))) (by decide))) t6 (fun σ' => ∃ y5, σ' = [some (.int wh), some (.ref p3), y2, y3, y4, y5, none]) ⟨_, rfl⟩ ?_ ?_
    · rintro i x σ' H' H0 hi e' e0 t' hx ⟨y5, rfl⟩
      refine sb_skip (eb_notB (eb_ref T (js := []) (fr := []) (Pv := fun v _ => v = x) T.c_BadLast t' (fun _ => rfl) (fun _ => rfl) (fun f c' => (lok_x (x := "_law_last") (ok_can T) T.g_can T.F_can.kp T.b_can (nscope_by (by dsimp only; decide +kernel)) rfl rfl (fun _ _ us hl => match us, hl with | [_], _ => rfl)).mono (by decide)) (fun c' ok => Caps.made ok (ndef_free (sc := defScope s__law_first_right) (fr := []) (by decide +kernel)) (ndef_fr (sc := defScope s__law_first_right) (by decide +kernel)) rfl) stab_val (fun H1 _ => eq_val (ev_var rfl) fun _ _ => rfl) (fun _ => ev_c) (fun v H1 hv Q E er => by
        subst hv
        exact ⟨_, rfl, _, rfl, .inr ⟨hx.bad H1, er⟩⟩) (.inl ⟨rfl, rfl⟩))) fun H1 e1 t1 => ⟨⟨_, rfl⟩, e0.trans e1, t1⟩
    rintro σ' H7 e7 t7 ⟨y5, rfl⟩
    have m0 := Int.emod_nonneg wh (show (400 : Int) ≠ 0 by decide)
    have m1 := Int.emod_lt_of_pos wh (show (0 : Int) < 400 by decide)
    have sps : ∀ i : Nat, Stab ((fun (_ : Nat) (v : V) (_ : Hp) => ∃ n : Int, v = .int n ∧ 0 ≤ n ∧ n ≤ 399) i) := fun _ _ _ _ _ h => h
    refine q_forB (K := K) (P := fun _ v _ => ∃ n : Int, v = .int n ∧ 0 ≤ n ∧ n ≤ 399) (n := 3) (fun _ _ _ _ _ _ h => h) (elj_new (eli_lst sps (eai_cons (sps 0) (eq_val (v := .int (wh % 400)) (by walk_at "ev") fun _ _ => ⟨_, rfl, by omega, by omega⟩) (eai_cons (sps 0) (eq_val (v := .int 399) ev_c fun _ _ => ⟨_, rfl, by omega, by omega⟩) (eai_cons (sps 0) (eq_val (v := .int 0) ev_c fun _ _ => ⟨_, rfl, by omega, by omega⟩) eai_nil))) (by decide))) t7 (fun σ' => ∃ y5 y6, σ' = [some (.int wh), some (.ref p3), y2, y3, y4, y5, y6]) ⟨_, _, rfl⟩ ?_ ?_
    · rintro i x σ' H' H0 hi e' e0 t' ⟨sp, rfl, s0, s1⟩ ⟨y5, y6, rfl⟩
      refine s_forB (K := K) (P := fun _ v _ => BadF (fun _ => False) v) (n := 3) badF_stb (elj_new (eli_lst badF_stab (eai_cons (badF_stab 0) bf_bl (eai_cons (badF_stab 0) bf_non (eai_cons (badF_stab 0) bf_str eai_nil))) (by decide))) t' (fun σ' => ∃ y5, σ' = [some (.int wh), some (.ref p3), y2, y3, y4, y5, some (.int sp)]) ⟨_, rfl⟩ ?_ ?_
      · rintro i2 x σ' H'' H0' hi2 e'' e0' t'' hx ⟨y5', rfl⟩
        have hn : ∀ H1 : Hp, Num K H1 x false := fun H1 => by
          rcases (hx.bad (K := K) H1) with h | ⟨_, _, h⟩
          · exact h
          · exact h.elim
        refine sb_skip (eb_notB (eb_ref T (js := []) (fr := []) (Pv := fun v H => NoRowV K H v) T.c_BadRow t'' (fun _ => rfl) (fun _ => rfl) (fun f c' => (lok_x (x := "_law_some") (ok_told T) T.g_told T.F_told.kp T.b_told (nscope_by (by dsimp only; decide +kernel)) rfl rfl (fun _ _ us hl => match us, hl with | [_], _ => rfl)).mono (by decide)) (fun c' ok => Caps.made ok (ndef_free (sc := defScope s__law_first_right) (fr := []) (by decide +kernel)) (ndef_fr (sc := defScope s__law_first_right) (by decide +kernel)) rfl) noRow_stab (fun H1 _ => nr_spot s0 s1 (hn H1) (el_lst (by walk_at "ev") (by show 1 ≤ 100000; decide)) (ev_var rfl) (el_lst (by walk_at "ev") (by show 1 ≤ 100000; decide)) (el_lst (by walk_at "ev") (by show 1 ≤ 100000; decide)) (by walk_at "ev")) (fun _ => ev_c) (fun v H1 hv Q E er => ⟨_, rfl, _, rfl, .inr ⟨hv, er⟩⟩) (.inr (.inr (.inr (.inr ⟨rfl, rfl⟩)))))) fun H1 e1 t1 => ⟨⟨_, rfl⟩, e0'.trans e1, t1⟩
      · rintro σ' H'' e'' t'' ⟨y5', rfl⟩
        exact ⟨⟨_, _, rfl⟩, e0.trans e'', t''⟩
    rintro σ' H8 e8 t8 ⟨y5, y6, rfl⟩
    refine q_forB (K := K) (P := fun _ => NoB) (n := 6) (fun i v H0 H1 => noB_stb i v H0 H1) (elj_new (eli_lst noB_stab
      (eai_cons (noB_stab 0) (nb_rep 402 (el_lst (by walk_at "ev") (by show 1 ≤ 100000; decide)) ev_c (by decide) (by decide))
      (eai_cons (noB_stab 0) (nb_lst (el_lst (by walk_at "ev") (by show 1 ≤ 100000; decide)) (by show ¬ RowLen 1; decide))
      (eai_cons (noB_stab 0) (nb_lst (el_lst (by walk_at "ev") (by show 0 ≤ 100000; decide)) (by show ¬ RowLen 0; decide))
      (eai_cons (noB_stab 0) (eq_tup (eu_tup (by walk_at "ev") (by show 2 ≤ 100000; decide)) fun p H1 h1 => .inr (.inl ⟨p, _, rfl, h1⟩))
      (eai_cons (noB_stab 0) (eq_val ev_c fun _ _ => .inl rfl)
      (eai_cons (noB_stab 0) (nb_rep 3 (el_lst (by walk_at "ev") (by show 1 ≤ 100000; decide)) ev_c (by decide) (by decide)) eai_nil)))))) (by decide))) t8 (fun σ' => ∃ y5, σ' = [some (.int wh), some (.ref p3), y2, y3, y4, y5, y6]) ⟨_, rfl⟩ ?_ ?_
    · rintro i x σ' H' H0 hi e' e0 t' hx ⟨y5, rfl⟩
      refine sb_skip (eb_notB (eb_ref T (js := []) (fr := []) (Pv := fun v H => v = x ∧ NoB v H) T.c_BadRow t' (fun _ => rfl) (fun _ => rfl) (fun f c' => (lok_x (x := "_law_some") (ok_mirrored T) T.g_mirrored T.F_mirrored.kp T.b_mirrored (nscope_by (by dsimp only; decide +kernel)) rfl rfl (fun _ _ us hl => match us, hl with | [_], _ => rfl)).mono (by decide)) (fun c' ok => Caps.made ok (ndef_free (sc := defScope s__law_first_right) (fr := []) (by decide +kernel)) (ndef_fr (sc := defScope s__law_first_right) (by decide +kernel)) rfl) (fun v H1 H2 e h => ⟨h.1, noB_stab 0 _ _ _ e h.2⟩) (fun H1 eB => eq_val (ev_var rfl) fun H2 e2 => ⟨rfl, noB_stab 0 _ _ _ e2 (noB_stb 0 _ _ _ eB t' hx)⟩) (fun _ => ev_c) (fun v H1 hv Q E er => ⟨_, rfl, _, rfl, .inr ⟨hv.2.bad, er⟩⟩) (.inr (.inr (.inr (.inr ⟨rfl, rfl⟩)))))) fun H1 e1 t1 => ⟨⟨_, rfl⟩, e0.trans e1, t1⟩
    rintro σ' H9 e9 t9 ⟨y5, rfl⟩
    exact s_ret ev_c fun HA eA => k HA
theorem v__law_first_right {T : Tx K mg} {wh : Int} {H : Hp} {Q : VK} {E : XK} (h : 0 ≤ wh) (hT : H T.p__law_first_right = some (.tbl #[])) (k : ∀ H', Q (.bl true) H') : sp__law_first_right T [.int wh] H Q E := ⟨wh, rfl, h, hT, k⟩
end
end PA

/-! the sets of threes, reckoned; printed by gen/settab.py -/
set_option Elab.async false
set_option linter.all false
set_option maxRecDepth 100000
set_option maxHeartbeats 4000000
namespace PA
open PySem PySem.Spec PyProof.Rows L2
/-- the threes of all numbers to three times l, marked, with their hashes -/
def itemsOf (l : Int) : List (Nat × Int × List Int) := (List.range (3 * l).toNat).map fun (i : Nat) => (i, hashT (three l ((i : Int) + 1)), three l ((i : Int) + 1))
def risB : List Nat → Bool
  | x :: y :: r => decide (x < y) && risB (y :: r)
  | _ => true
/-- put into a set, they make a fine table of the first l ones -/
def FoldOk (l : Int) : Prop := ∃ S : Rws Nat, foldP ⟨.fresh 0 0 true, []⟩ (itemsOf l) = some S ∧ risB S.t.place.toList = true ∧ S.t.fits S.L.length = true ∧ S.L.length < 4000 ∧ (S.L.map (·.1)).isPerm (List.range l.toNat) = true
def it1_0 : List (Nat × Int × List Int) := [(0, 529344067295497451, [1, 2, 3]), (1, 529344067295497451, [1, 2, 3]), (2, 529344067295497451, [1, 2, 3])]
def st1_0 : Rws Nat := ⟨⟨7, #[], #[], 0, true, 0, true⟩, []⟩
def st1_1 : Rws Nat := ⟨⟨7, #[3], #[], 0, true, 0, true⟩, [(0, 529344067295497451, [1, 2, 3])]⟩
theorem fo1_0 : foldP st1_0 it1_0 = some st1_1 := by decide +kernel
theorem items1 : itemsOf 1 = it1_0 := by decide +kernel
theorem fold1 : FoldOk 1 := ⟨st1_1, by rw [items1]; exact fo1_0, by decide +kernel, by decide +kernel, by decide +kernel, by decide +kernel⟩
def it4_0 : List (Nat × Int × List Int) := [(0, 7957444921743822512, [1, 5, 6]), (1, 1866473785070693897, [2, 9, 11]), (2, 8647336293090060387, [3, 7, 10]), (3, -1316198142132433953, [4, 8, 12]), (4, 7957444921743822512, [1, 5, 6]), (5, 7957444921743822512, [1, 5, 6]), (6, 8647336293090060387, [3, 7, 10]), (7, -1316198142132433953, [4, 8, 12]), (8, 1866473785070693897, [2, 9, 11]), (9, 8647336293090060387, [3, 7, 10]), (10, 1866473785070693897, [2, 9, 11]), (11, -1316198142132433953, [4, 8, 12])]
def st4_0 : Rws Nat := ⟨⟨7, #[], #[], 0, true, 0, true⟩, []⟩
def st4_1 : Rws Nat := ⟨⟨7, #[0, 1, 3, 7], #[], 0, true, 0, true⟩, [(0, 7957444921743822512, [1, 5, 6]), (1, 1866473785070693897, [2, 9, 11]), (2, 8647336293090060387, [3, 7, 10]), (3, -1316198142132433953, [4, 8, 12])]⟩
theorem fo4_0 : foldP st4_0 it4_0 = some st4_1 := by decide +kernel
theorem items4 : itemsOf 4 = it4_0 := by decide +kernel
theorem fold4 : FoldOk 4 := ⟨st4_1, by rw [items4]; exact fo4_0, by decide +kernel, by decide +kernel, by decide +kernel, by decide +kernel⟩
def it5_0 : List (Nat × Int × List Int) := [(0, 2792993244750549275, [1, 13, 14]), (1, 8353785833698227164, [2, 8, 10]), (2, 2358043855274914127, [3, 6, 9]), (3, 1713545329331522980, [4, 11, 15]), (4, 1551212045220408738, [5, 7, 12]), (5, 2358043855274914127, [3, 6, 9]), (6, 1551212045220408738, [5, 7, 12]), (7, 8353785833698227164, [2, 8, 10]), (8, 2358043855274914127, [3, 6, 9]), (9, 8353785833698227164, [2, 8, 10]), (10, 1713545329331522980, [4, 11, 15]), (11, 1551212045220408738, [5, 7, 12]), (12, 2792993244750549275, [1, 13, 14]), (13, 2792993244750549275, [1, 13, 14]), (14, 1713545329331522980, [4, 11, 15])]
def st5_0 : Rws Nat := ⟨⟨7, #[], #[], 0, true, 0, true⟩, []⟩
def st5_1 : Rws Nat := ⟨⟨31, #[2, 4, 15, 27, 28], #[], 0, true, 1, true⟩, [(4, 1551212045220408738, [5, 7, 12]), (3, 1713545329331522980, [4, 11, 15]), (2, 2358043855274914127, [3, 6, 9]), (0, 2792993244750549275, [1, 13, 14]), (1, 8353785833698227164, [2, 8, 10])]⟩
theorem fo5_0 : foldP st5_0 it5_0 = some st5_1 := by decide +kernel
theorem items5 : itemsOf 5 = it5_0 := by decide +kernel
theorem fold5 : FoldOk 5 := ⟨st5_1, by rw [items5]; exact fo5_0, by decide +kernel, by decide +kernel, by decide +kernel, by decide +kernel⟩
def it8_0 : List (Nat × Int × List Int) := [(0, -5477927436783184578, [1, 10, 11]), (1, 6219077628168910860, [2, 19, 21]), (2, -4788036065436946703, [3, 12, 15]), (3, 3036405700965783010, [4, 18, 22]), (4, 3532840288938996331, [5, 9, 14]), (5, 1889702153613900257, [6, 17, 23]), (6, 5361540076918413007, [7, 13, 20]), (7, -6180725144311641503, [8, 16, 24]), (8, 3532840288938996331, [5, 9, 14]), (9, -5477927436783184578, [1, 10, 11]), (10, -5477927436783184578, [1, 10, 11]), (11, -4788036065436946703, [3, 12, 15]), (12, 5361540076918413007, [7, 13, 20]), (13, 3532840288938996331, [5, 9, 14]), (14, -4788036065436946703, [3, 12, 15]), (15, -6180725144311641503, [8, 16, 24]), (16, 1889702153613900257, [6, 17, 23]), (17, 3036405700965783010, [4, 18, 22]), (18, 6219077628168910860, [2, 19, 21]), (19, 5361540076918413007, [7, 13, 20])]
def it8_1 : List (Nat × Int × List Int) := [(20, 6219077628168910860, [2, 19, 21]), (21, 3036405700965783010, [4, 18, 22]), (22, 1889702153613900257, [6, 17, 23]), (23, -6180725144311641503, [8, 16, 24])]
def st8_0 : Rws Nat := ⟨⟨7, #[], #[], 0, true, 0, true⟩, []⟩
def st8_1 : Rws Nat := ⟨⟨31, #[1, 2, 3, 11, 12, 15, 17, 30], #[], 0, true, 1, true⟩, [(5, 1889702153613900257, [6, 17, 23]), (3, 3036405700965783010, [4, 18, 22]), (7, -6180725144311641503, [8, 16, 24]), (4, 3532840288938996331, [5, 9, 14]), (1, 6219077628168910860, [2, 19, 21]), (6, 5361540076918413007, [7, 13, 20]), (2, -4788036065436946703, [3, 12, 15]), (0, -5477927436783184578, [1, 10, 11])]⟩
def st8_2 : Rws Nat := ⟨⟨31, #[1, 2, 3, 11, 12, 15, 17, 30], #[], 0, true, 1, true⟩, [(5, 1889702153613900257, [6, 17, 23]), (3, 3036405700965783010, [4, 18, 22]), (7, -6180725144311641503, [8, 16, 24]), (4, 3532840288938996331, [5, 9, 14]), (1, 6219077628168910860, [2, 19, 21]), (6, 5361540076918413007, [7, 13, 20]), (2, -4788036065436946703, [3, 12, 15]), (0, -5477927436783184578, [1, 10, 11])]⟩
theorem fo8_0 : foldP st8_0 it8_0 = some st8_1 := by decide +kernel
theorem fo8_1 : foldP st8_1 it8_1 = some st8_2 := by decide +kernel
theorem items8 : itemsOf 8 = it8_0 ++ (it8_1) := by decide +kernel
theorem fold8 : FoldOk 8 := ⟨st8_2, by rw [items8]; exact foldP_app _ _ _ _ _ fo8_0 (fo8_1), by decide +kernel, by decide +kernel, by decide +kernel, by decide +kernel⟩
def it9_0 : List (Nat × Int × List Int) := [(0, 4881947910393714414, [1, 12, 13]), (1, 6601149193982379096, [2, 22, 24]), (2, -4405964499623478467, [3, 15, 18]), (3, 5576751184691694161, [4, 21, 25]), (4, -4554028437593656293, [5, 11, 16]), (5, -8286121238561917506, [6, 20, 26]), (6, 4979468511104944771, [7, 10, 17]), (7, 1247375710136683558, [8, 19, 27]), (8, -3749726658904924552, [9, 14, 23]), (9, 4979468511104944771, [7, 10, 17]), (10, -4554028437593656293, [5, 11, 16]), (11, 4881947910393714414, [1, 12, 13]), (12, 4881947910393714414, [1, 12, 13]), (13, -3749726658904924552, [9, 14, 23]), (14, -4405964499623478467, [3, 15, 18]), (15, -4554028437593656293, [5, 11, 16]), (16, 4979468511104944771, [7, 10, 17]), (17, -4405964499623478467, [3, 15, 18]), (18, 1247375710136683558, [8, 19, 27]), (19, -8286121238561917506, [6, 20, 26])]
def it9_1 : List (Nat × Int × List Int) := [(20, 5576751184691694161, [4, 21, 25]), (21, 6601149193982379096, [2, 22, 24]), (22, -3749726658904924552, [9, 14, 23]), (23, 6601149193982379096, [2, 22, 24]), (24, 5576751184691694161, [4, 21, 25]), (25, -8286121238561917506, [6, 20, 26]), (26, 1247375710136683558, [8, 19, 27])]
def st9_0 : Rws Nat := ⟨⟨7, #[], #[], 0, true, 0, true⟩, []⟩
def st9_1 : Rws Nat := ⟨⟨31, #[3, 6, 12, 14, 17, 24, 27, 29, 30], #[], 0, true, 1, true⟩, [(6, 4979468511104944771, [7, 10, 17]), (7, 1247375710136683558, [8, 19, 27]), (8, -3749726658904924552, [9, 14, 23]), (0, 4881947910393714414, [1, 12, 13]), (3, 5576751184691694161, [4, 21, 25]), (1, 6601149193982379096, [2, 22, 24]), (4, -4554028437593656293, [5, 11, 16]), (2, -4405964499623478467, [3, 15, 18]), (5, -8286121238561917506, [6, 20, 26])]⟩
def st9_2 : Rws Nat := ⟨⟨31, #[3, 6, 12, 14, 17, 24, 27, 29, 30], #[], 0, true, 1, true⟩, [(6, 4979468511104944771, [7, 10, 17]), (7, 1247375710136683558, [8, 19, 27]), (8, -3749726658904924552, [9, 14, 23]), (0, 4881947910393714414, [1, 12, 13]), (3, 5576751184691694161, [4, 21, 25]), (1, 6601149193982379096, [2, 22, 24]), (4, -4554028437593656293, [5, 11, 16]), (2, -4405964499623478467, [3, 15, 18]), (5, -8286121238561917506, [6, 20, 26])]⟩
theorem fo9_0 : foldP st9_0 it9_0 = some st9_1 := by decide +kernel
theorem fo9_1 : foldP st9_1 it9_1 = some st9_2 := by decide +kernel
theorem items9 : itemsOf 9 = it9_0 ++ (it9_1) := by decide +kernel
theorem fold9 : FoldOk 9 := ⟨st9_2, by rw [items9]; exact foldP_app _ _ _ _ _ fo9_0 (fo9_1), by decide +kernel, by decide +kernel, by decide +kernel, by decide +kernel⟩
def it12_0 : List (Nat × Int × List Int) := [(0, 5264019476207182650, [1, 15, 16]), (1, -2204923015175551704, [2, 29, 31]), (2, 223335649745597823, [3, 17, 20]), (3, 2501254173341586063, [4, 28, 32]), (4, -8961743263767218965, [5, 18, 23]), (5, -6534298489730562307, [6, 27, 33]), (6, 5920257316925736565, [7, 14, 21]), (7, -1828121301213424540, [8, 26, 34]), (8, -8706801281896616238, [9, 13, 22]), (9, -1594113673370134130, [10, 25, 35]), (10, -103903993784208973, [11, 19, 30]), (11, 7939383275328466934, [12, 24, 36]), (12, -8706801281896616238, [9, 13, 22]), (13, 5920257316925736565, [7, 14, 21]), (14, 5264019476207182650, [1, 15, 16]), (15, 5264019476207182650, [1, 15, 16]), (16, 223335649745597823, [3, 17, 20]), (17, -8961743263767218965, [5, 18, 23]), (18, -103903993784208973, [11, 19, 30]), (19, 223335649745597823, [3, 17, 20])]
def it12_1 : List (Nat × Int × List Int) := [(20, 5920257316925736565, [7, 14, 21]), (21, -8706801281896616238, [9, 13, 22]), (22, -8961743263767218965, [5, 18, 23]), (23, 7939383275328466934, [12, 24, 36]), (24, -1594113673370134130, [10, 25, 35]), (25, -1828121301213424540, [8, 26, 34]), (26, -6534298489730562307, [6, 27, 33]), (27, 2501254173341586063, [4, 28, 32]), (28, -2204923015175551704, [2, 29, 31]), (29, -103903993784208973, [11, 19, 30]), (30, -2204923015175551704, [2, 29, 31]), (31, 2501254173341586063, [4, 28, 32]), (32, -6534298489730562307, [6, 27, 33]), (33, -1828121301213424540, [8, 26, 34]), (34, -1594113673370134130, [10, 25, 35]), (35, 7939383275328466934, [12, 24, 36])]
def st12_0 : Rws Nat := ⟨⟨7, #[], #[], 0, true, 0, true⟩, []⟩
def st12_1 : Rws Nat := ⟨⟨31, #[4, 8, 11, 14, 15, 18, 19, 21, 22, 26, 29, 31], #[], 0, true, 1, true⟩, [(7, -1828121301213424540, [8, 26, 34]), (1, -2204923015175551704, [2, 29, 31]), (4, -8961743263767218965, [5, 18, 23]), (9, -1594113673370134130, [10, 25, 35]), (3, 2501254173341586063, [4, 28, 32]), (8, -8706801281896616238, [9, 13, 22]), (10, -103903993784208973, [11, 19, 30]), (6, 5920257316925736565, [7, 14, 21]), (11, 7939383275328466934, [12, 24, 36]), (0, 5264019476207182650, [1, 15, 16]), (5, -6534298489730562307, [6, 27, 33]), (2, 223335649745597823, [3, 17, 20])]⟩
def st12_2 : Rws Nat := ⟨⟨31, #[4, 8, 11, 14, 15, 18, 19, 21, 22, 26, 29, 31], #[], 0, true, 1, true⟩, [(7, -1828121301213424540, [8, 26, 34]), (1, -2204923015175551704, [2, 29, 31]), (4, -8961743263767218965, [5, 18, 23]), (9, -1594113673370134130, [10, 25, 35]), (3, 2501254173341586063, [4, 28, 32]), (8, -8706801281896616238, [9, 13, 22]), (10, -103903993784208973, [11, 19, 30]), (6, 5920257316925736565, [7, 14, 21]), (11, 7939383275328466934, [12, 24, 36]), (0, 5264019476207182650, [1, 15, 16]), (5, -6534298489730562307, [6, 27, 33]), (2, 223335649745597823, [3, 17, 20])]⟩
theorem fo12_0 : foldP st12_0 it12_0 = some st12_1 := by decide +kernel
theorem fo12_1 : foldP st12_1 it12_1 = some st12_2 := by decide +kernel
theorem items12 : itemsOf 12 = it12_0 ++ (it12_1) := by decide +kernel
theorem fold12 : FoldOk 12 := ⟨st12_2, by rw [items12]; exact foldP_app _ _ _ _ _ fo12_0 (fo12_1), by decide +kernel, by decide +kernel, by decide +kernel, by decide +kernel⟩
def it13_0 : List (Nat × Int × List Int) := [(0, -8553424448133292676, [1, 17, 18]), (1, -1822851449362083468, [2, 32, 34]), (2, -9195750891610509375, [3, 19, 22]), (3, 2883325739155054299, [4, 31, 35]), (4, -1533642409318893904, [5, 21, 26]), (5, 1736622191803171546, [6, 30, 36]), (6, -2166611409606916059, [7, 16, 23]), (7, -1446049735399956304, [8, 29, 37]), (8, 320856250456828180, [9, 15, 24]), (9, -6942617305364488596, [10, 28, 38]), (10, 7600893166934975415, [11, 14, 25]), (11, 8321454841141935170, [12, 27, 39]), (12, -2685658852463922393, [13, 20, 33]), (13, 7600893166934975415, [11, 14, 25]), (14, 320856250456828180, [9, 15, 24]), (15, -2166611409606916059, [7, 16, 23]), (16, -8553424448133292676, [1, 17, 18]), (17, -8553424448133292676, [1, 17, 18]), (18, -9195750891610509375, [3, 19, 22]), (19, -2685658852463922393, [13, 20, 33])]
def it13_1 : List (Nat × Int × List Int) := [(20, -1533642409318893904, [5, 21, 26]), (21, -9195750891610509375, [3, 19, 22]), (22, -2166611409606916059, [7, 16, 23]), (23, 320856250456828180, [9, 15, 24]), (24, 7600893166934975415, [11, 14, 25]), (25, -1533642409318893904, [5, 21, 26]), (26, 8321454841141935170, [12, 27, 39]), (27, -6942617305364488596, [10, 28, 38]), (28, -1446049735399956304, [8, 29, 37]), (29, 1736622191803171546, [6, 30, 36]), (30, 2883325739155054299, [4, 31, 35]), (31, -1822851449362083468, [2, 32, 34]), (32, -2685658852463922393, [13, 20, 33]), (33, -1822851449362083468, [2, 32, 34]), (34, 2883325739155054299, [4, 31, 35]), (35, 1736622191803171546, [6, 30, 36]), (36, -1446049735399956304, [8, 29, 37]), (37, -6942617305364488596, [10, 28, 38]), (38, 8321454841141935170, [12, 27, 39])]
def st13_0 : Rws Nat := ⟨⟨7, #[], #[], 0, true, 0, true⟩, []⟩
def st13_1 : Rws Nat := ⟨⟨31, #[1, 2, 5, 7, 12, 16, 17, 20, 21, 23, 26, 27, 28], #[], 0, true, 1, true⟩, [(2, -9195750891610509375, [3, 19, 22]), (11, 8321454841141935170, [12, 27, 39]), (6, -2166611409606916059, [7, 16, 23]), (12, -2685658852463922393, [13, 20, 33]), (9, -6942617305364488596, [10, 28, 38]), (4, -1533642409318893904, [5, 21, 26]), (7, -1446049735399956304, [8, 29, 37]), (1, -1822851449362083468, [2, 32, 34]), (8, 320856250456828180, [9, 15, 24]), (10, 7600893166934975415, [11, 14, 25]), (5, 1736622191803171546, [6, 30, 36]), (3, 2883325739155054299, [4, 31, 35]), (0, -8553424448133292676, [1, 17, 18])]⟩
def st13_2 : Rws Nat := ⟨⟨31, #[1, 2, 5, 7, 12, 16, 17, 20, 21, 23, 26, 27, 28], #[], 0, true, 1, true⟩, [(2, -9195750891610509375, [3, 19, 22]), (11, 8321454841141935170, [12, 27, 39]), (6, -2166611409606916059, [7, 16, 23]), (12, -2685658852463922393, [13, 20, 33]), (9, -6942617305364488596, [10, 28, 38]), (4, -1533642409318893904, [5, 21, 26]), (7, -1446049735399956304, [8, 29, 37]), (1, -1822851449362083468, [2, 32, 34]), (8, 320856250456828180, [9, 15, 24]), (10, 7600893166934975415, [11, 14, 25]), (5, 1736622191803171546, [6, 30, 36]), (3, 2883325739155054299, [4, 31, 35]), (0, -8553424448133292676, [1, 17, 18])]⟩
theorem fo13_0 : foldP st13_0 it13_0 = some st13_1 := by decide +kernel
theorem fo13_1 : foldP st13_1 it13_1 = some st13_2 := by decide +kernel
theorem items13 : itemsOf 13 = it13_0 ++ (it13_1) := by decide +kernel
theorem fold13 : FoldOk 13 := ⟨st13_2, by rw [items13]; exact foldP_app _ _ _ _ _ fo13_0 (fo13_1), by decide +kernel, by decide +kernel, by decide +kernel, by decide +kernel⟩
def it16_0 : List (Nat × Int × List Int) := [(0, -282503766599558823, [1, 20, 21]), (1, -4898348460712191566, [2, 39, 41]), (2, 3145752699284977210, [3, 23, 26]), (3, -5922746470002876501, [4, 38, 42]), (4, 2536940500042858828, [5, 22, 27]), (5, 3059482563437431576, [6, 37, 43]), (6, 3226831871389096703, [7, 24, 31]), (7, 8194622129151664512, [8, 36, 44]), (8, 1261645056277619974, [9, 19, 28]), (9, 1426272354904628259, [10, 35, 45]), (10, 652832857035501592, [11, 18, 29]), (11, 5245957829791827072, [12, 34, 46]), (12, -3067730418277390629, [13, 17, 30]), (13, -5920749327439577309, [14, 33, 47]), (14, 3118437730569236101, [15, 25, 40]), (15, 3612747621259023755, [16, 32, 48]), (16, -3067730418277390629, [13, 17, 30]), (17, 652832857035501592, [11, 18, 29]), (18, 1261645056277619974, [9, 19, 28]), (19, -282503766599558823, [1, 20, 21])]
def it16_1 : List (Nat × Int × List Int) := [(20, -282503766599558823, [1, 20, 21]), (21, 2536940500042858828, [5, 22, 27]), (22, 3145752699284977210, [3, 23, 26]), (23, 3226831871389096703, [7, 24, 31]), (24, 3118437730569236101, [15, 25, 40]), (25, 3145752699284977210, [3, 23, 26]), (26, 2536940500042858828, [5, 22, 27]), (27, 1261645056277619974, [9, 19, 28]), (28, 652832857035501592, [11, 18, 29]), (29, -3067730418277390629, [13, 17, 30]), (30, 3226831871389096703, [7, 24, 31]), (31, 3612747621259023755, [16, 32, 48]), (32, -5920749327439577309, [14, 33, 47]), (33, 5245957829791827072, [12, 34, 46]), (34, 1426272354904628259, [10, 35, 45]), (35, 8194622129151664512, [8, 36, 44]), (36, 3059482563437431576, [6, 37, 43]), (37, -5922746470002876501, [4, 38, 42]), (38, -4898348460712191566, [2, 39, 41]), (39, 3118437730569236101, [15, 25, 40])]
def it16_2 : List (Nat × Int × List Int) := [(40, -4898348460712191566, [2, 39, 41]), (41, -5922746470002876501, [4, 38, 42]), (42, 3059482563437431576, [6, 37, 43]), (43, 8194622129151664512, [8, 36, 44]), (44, 1426272354904628259, [10, 35, 45]), (45, 5245957829791827072, [12, 34, 46]), (46, -5920749327439577309, [14, 33, 47]), (47, 3612747621259023755, [16, 32, 48])]
def st16_0 : Rws Nat := ⟨⟨7, #[], #[], 0, true, 0, true⟩, []⟩
def st16_1 : Rws Nat := ⟨⟨31, #[0, 1, 3, 4, 5, 6, 11, 12, 13, 18, 24, 25, 26, 27, 30, 31], #[], 0, true, 1, true⟩, [(7, 8194622129151664512, [8, 36, 44]), (11, 5245957829791827072, [12, 34, 46]), (9, 1426272354904628259, [10, 35, 45]), (13, -5920749327439577309, [14, 33, 47]), (14, 3118437730569236101, [15, 25, 40]), (8, 1261645056277619974, [9, 19, 28]), (3, -5922746470002876501, [4, 38, 42]), (4, 2536940500042858828, [5, 22, 27]), (15, 3612747621259023755, [16, 32, 48]), (1, -4898348460712191566, [2, 39, 41]), (5, 3059482563437431576, [6, 37, 43]), (0, -282503766599558823, [1, 20, 21]), (2, 3145752699284977210, [3, 23, 26]), (12, -3067730418277390629, [13, 17, 30]), (10, 652832857035501592, [11, 18, 29]), (6, 3226831871389096703, [7, 24, 31])]⟩
def st16_2 : Rws Nat := ⟨⟨31, #[0, 1, 3, 4, 5, 6, 11, 12, 13, 18, 24, 25, 26, 27, 30, 31], #[], 0, true, 1, true⟩, [(7, 8194622129151664512, [8, 36, 44]), (11, 5245957829791827072, [12, 34, 46]), (9, 1426272354904628259, [10, 35, 45]), (13, -5920749327439577309, [14, 33, 47]), (14, 3118437730569236101, [15, 25, 40]), (8, 1261645056277619974, [9, 19, 28]), (3, -5922746470002876501, [4, 38, 42]), (4, 2536940500042858828, [5, 22, 27]), (15, 3612747621259023755, [16, 32, 48]), (1, -4898348460712191566, [2, 39, 41]), (5, 3059482563437431576, [6, 37, 43]), (0, -282503766599558823, [1, 20, 21]), (2, 3145752699284977210, [3, 23, 26]), (12, -3067730418277390629, [13, 17, 30]), (10, 652832857035501592, [11, 18, 29]), (6, 3226831871389096703, [7, 24, 31])]⟩
def st16_3 : Rws Nat := ⟨⟨31, #[0, 1, 3, 4, 5, 6, 11, 12, 13, 18, 24, 25, 26, 27, 30, 31], #[], 0, true, 1, true⟩, [(7, 8194622129151664512, [8, 36, 44]), (11, 5245957829791827072, [12, 34, 46]), (9, 1426272354904628259, [10, 35, 45]), (13, -5920749327439577309, [14, 33, 47]), (14, 3118437730569236101, [15, 25, 40]), (8, 1261645056277619974, [9, 19, 28]), (3, -5922746470002876501, [4, 38, 42]), (4, 2536940500042858828, [5, 22, 27]), (15, 3612747621259023755, [16, 32, 48]), (1, -4898348460712191566, [2, 39, 41]), (5, 3059482563437431576, [6, 37, 43]), (0, -282503766599558823, [1, 20, 21]), (2, 3145752699284977210, [3, 23, 26]), (12, -3067730418277390629, [13, 17, 30]), (10, 652832857035501592, [11, 18, 29]), (6, 3226831871389096703, [7, 24, 31])]⟩
theorem fo16_0 : foldP st16_0 it16_0 = some st16_1 := by decide +kernel
theorem fo16_1 : foldP st16_1 it16_1 = some st16_2 := by decide +kernel
theorem fo16_2 : foldP st16_2 it16_2 = some st16_3 := by decide +kernel
theorem items16 : itemsOf 16 = it16_0 ++ (it16_1 ++ (it16_2)) := by decide +kernel
theorem fold16 : FoldOk 16 := ⟨st16_3, by rw [items16]; exact foldP_app _ _ _ _ _ fo16_0 (foldP_app _ _ _ _ _ fo16_1 (fo16_2)), by decide +kernel, by decide +kernel, by decide +kernel, by decide +kernel⟩
def it17_0 : List (Nat × Int × List Int) := [(0, 856304650033619978, [1, 22, 23]), (1, -2358002976986280415, [2, 42, 44]), (2, -4941116027247675414, [3, 25, 28]), (3, -5540674904189408265, [4, 41, 45]), (4, -5549928226489793796, [5, 24, 29]), (5, 358650837093565807, [6, 40, 46]), (6, -2121671760605257763, [7, 27, 34]), (7, 8576693694965132748, [8, 39, 47]), (8, -6825223670255032650, [9, 21, 30]), (9, -2590013462266271633, [10, 38, 48]), (10, -7434035869497151032, [11, 20, 31]), (11, 2116163726250866134, [12, 37, 49]), (12, -6756241761825675125, [13, 19, 32]), (13, 7177491114275619841, [14, 36, 50]), (14, -6522234133982384715, [15, 18, 33]), (15, -6563075770916794008, [16, 35, 51]), (16, -8151102923166544373, [17, 26, 43]), (17, -6522234133982384715, [15, 18, 33]), (18, -6756241761825675125, [13, 19, 32]), (19, -7434035869497151032, [11, 20, 31])]
def it17_1 : List (Nat × Int × List Int) := [(20, -6825223670255032650, [9, 21, 30]), (21, 856304650033619978, [1, 22, 23]), (22, 856304650033619978, [1, 22, 23]), (23, -5549928226489793796, [5, 24, 29]), (24, -4941116027247675414, [3, 25, 28]), (25, -8151102923166544373, [17, 26, 43]), (26, -2121671760605257763, [7, 27, 34]), (27, -4941116027247675414, [3, 25, 28]), (28, -5549928226489793796, [5, 24, 29]), (29, -6825223670255032650, [9, 21, 30]), (30, -7434035869497151032, [11, 20, 31]), (31, -6756241761825675125, [13, 19, 32]), (32, -6522234133982384715, [15, 18, 33]), (33, -2121671760605257763, [7, 27, 34]), (34, -6563075770916794008, [16, 35, 51]), (35, 7177491114275619841, [14, 36, 50]), (36, 2116163726250866134, [12, 37, 49]), (37, -2590013462266271633, [10, 38, 48]), (38, 8576693694965132748, [8, 39, 47]), (39, 358650837093565807, [6, 40, 46])]
def it17_2 : List (Nat × Int × List Int) := [(40, -5540674904189408265, [4, 41, 45]), (41, -2358002976986280415, [2, 42, 44]), (42, -8151102923166544373, [17, 26, 43]), (43, -2358002976986280415, [2, 42, 44]), (44, -5540674904189408265, [4, 41, 45]), (45, 358650837093565807, [6, 40, 46]), (46, 8576693694965132748, [8, 39, 47]), (47, -2590013462266271633, [10, 38, 48]), (48, 2116163726250866134, [12, 37, 49]), (49, 7177491114275619841, [14, 36, 50]), (50, -6563075770916794008, [16, 35, 51])]
def st17_0 : Rws Nat := ⟨⟨7, #[], #[], 0, true, 0, true⟩, []⟩
def st17_1 : Rws Nat := ⟨⟨31, #[1, 2, 8, 9, 10, 11, 12, 13, 14, 15, 16, 21, 22, 23, 24, 28, 29], #[], 0, true, 1, true⟩, [(1, -2358002976986280415, [2, 42, 44]), (13, 7177491114275619841, [14, 36, 50]), (10, -7434035869497151032, [11, 20, 31]), (15, -6563075770916794008, [16, 35, 51]), (2, -4941116027247675414, [3, 25, 28]), (0, 856304650033619978, [1, 22, 23]), (7, 8576693694965132748, [8, 39, 47]), (12, -6756241761825675125, [13, 19, 32]), (16, -8151102923166544373, [17, 26, 43]), (5, 358650837093565807, [6, 40, 46]), (9, -2590013462266271633, [10, 38, 48]), (14, -6522234133982384715, [15, 18, 33]), (8, -6825223670255032650, [9, 21, 30]), (3, -5540674904189408265, [4, 41, 45]), (11, 2116163726250866134, [12, 37, 49]), (4, -5549928226489793796, [5, 24, 29]), (6, -2121671760605257763, [7, 27, 34])]⟩
def st17_2 : Rws Nat := ⟨⟨31, #[1, 2, 8, 9, 10, 11, 12, 13, 14, 15, 16, 21, 22, 23, 24, 28, 29], #[], 0, true, 1, true⟩, [(1, -2358002976986280415, [2, 42, 44]), (13, 7177491114275619841, [14, 36, 50]), (10, -7434035869497151032, [11, 20, 31]), (15, -6563075770916794008, [16, 35, 51]), (2, -4941116027247675414, [3, 25, 28]), (0, 856304650033619978, [1, 22, 23]), (7, 8576693694965132748, [8, 39, 47]), (12, -6756241761825675125, [13, 19, 32]), (16, -8151102923166544373, [17, 26, 43]), (5, 358650837093565807, [6, 40, 46]), (9, -2590013462266271633, [10, 38, 48]), (14, -6522234133982384715, [15, 18, 33]), (8, -6825223670255032650, [9, 21, 30]), (3, -5540674904189408265, [4, 41, 45]), (11, 2116163726250866134, [12, 37, 49]), (4, -5549928226489793796, [5, 24, 29]), (6, -2121671760605257763, [7, 27, 34])]⟩
def st17_3 : Rws Nat := ⟨⟨31, #[1, 2, 8, 9, 10, 11, 12, 13, 14, 15, 16, 21, 22, 23, 24, 28, 29], #[], 0, true, 1, true⟩, [(1, -2358002976986280415, [2, 42, 44]), (13, 7177491114275619841, [14, 36, 50]), (10, -7434035869497151032, [11, 20, 31]), (15, -6563075770916794008, [16, 35, 51]), (2, -4941116027247675414, [3, 25, 28]), (0, 856304650033619978, [1, 22, 23]), (7, 8576693694965132748, [8, 39, 47]), (12, -6756241761825675125, [13, 19, 32]), (16, -8151102923166544373, [17, 26, 43]), (5, 358650837093565807, [6, 40, 46]), (9, -2590013462266271633, [10, 38, 48]), (14, -6522234133982384715, [15, 18, 33]), (8, -6825223670255032650, [9, 21, 30]), (3, -5540674904189408265, [4, 41, 45]), (11, 2116163726250866134, [12, 37, 49]), (4, -5549928226489793796, [5, 24, 29]), (6, -2121671760605257763, [7, 27, 34])]⟩
theorem fo17_0 : foldP st17_0 it17_0 = some st17_1 := by decide +kernel
theorem fo17_1 : foldP st17_1 it17_1 = some st17_2 := by decide +kernel
theorem fo17_2 : foldP st17_2 it17_2 = some st17_3 := by decide +kernel
theorem items17 : itemsOf 17 = it17_0 ++ (it17_1 ++ (it17_2)) := by decide +kernel
theorem fold17 : FoldOk 17 := ⟨st17_3, by rw [items17]; exact foldP_app _ _ _ _ _ fo17_0 (foldP_app _ _ _ _ _ fo17_1 (fo17_2)), by decide +kernel, by decide +kernel, by decide +kernel, by decide +kernel⟩
def it20_0 : List (Nat × Int × List Int) := [(0, 4728867948582985703, [1, 25, 26]), (1, -1035142605352020385, [2, 49, 51]), (2, 6557567736562402379, [3, 29, 32]), (3, -8616171915539516363, [4, 48, 52]), (4, -4609139420669002002, [5, 28, 33]), (5, 1681511208727825837, [6, 47, 53]), (6, -2121671760605257763, [7, 27, 34]), (7, 5501196683615024650, [8, 46, 54]), (8, -8761912264971961947, [9, 30, 39]), (9, -1267153090632011603, [10, 45, 55]), (10, 4907467721398335553, [11, 24, 35]), (11, 3867986475082221333, [12, 44, 56]), (12, 5585261829069811460, [13, 23, 36]), (13, 4101994102925511743, [14, 43, 57]), (14, 578092246843324950, [15, 22, 37]), (15, 8808171291442649510, [16, 42, 58]), (16, -446305762447359985, [17, 21, 38]), (17, 8199359092200531128, [18, 41, 59]), (18, -5837498072869283368, [19, 31, 50]), (19, 4478795816887638907, [20, 40, 60])]
def it20_1 : List (Nat × Int × List Int) := [(20, -446305762447359985, [17, 21, 38]), (21, 578092246843324950, [15, 22, 37]), (22, 5585261829069811460, [13, 23, 36]), (23, 4907467721398335553, [11, 24, 35]), (24, 4728867948582985703, [1, 25, 26]), (25, 4728867948582985703, [1, 25, 26]), (26, -2121671760605257763, [7, 27, 34]), (27, -4609139420669002002, [5, 28, 33]), (28, 6557567736562402379, [3, 29, 32]), (29, -8761912264971961947, [9, 30, 39]), (30, -5837498072869283368, [19, 31, 50]), (31, 6557567736562402379, [3, 29, 32]), (32, -4609139420669002002, [5, 28, 33]), (33, -2121671760605257763, [7, 27, 34]), (34, 4907467721398335553, [11, 24, 35]), (35, 5585261829069811460, [13, 23, 36]), (36, 578092246843324950, [15, 22, 37]), (37, -446305762447359985, [17, 21, 38]), (38, -8761912264971961947, [9, 30, 39]), (39, 4478795816887638907, [20, 40, 60])]
def it20_2 : List (Nat × Int × List Int) := [(40, 8199359092200531128, [18, 41, 59]), (41, 8808171291442649510, [16, 42, 58]), (42, 4101994102925511743, [14, 43, 57]), (43, 3867986475082221333, [12, 44, 56]), (44, -1267153090632011603, [10, 45, 55]), (45, 5501196683615024650, [8, 46, 54]), (46, 1681511208727825837, [6, 47, 53]), (47, -8616171915539516363, [4, 48, 52]), (48, -1035142605352020385, [2, 49, 51]), (49, -5837498072869283368, [19, 31, 50]), (50, -1035142605352020385, [2, 49, 51]), (51, -8616171915539516363, [4, 48, 52]), (52, 1681511208727825837, [6, 47, 53]), (53, 5501196683615024650, [8, 46, 54]), (54, -1267153090632011603, [10, 45, 55]), (55, 3867986475082221333, [12, 44, 56]), (56, 4101994102925511743, [14, 43, 57]), (57, 8808171291442649510, [16, 42, 58]), (58, 8199359092200531128, [18, 41, 59]), (59, 4478795816887638907, [20, 40, 60])]
def st20_0 : Rws Nat := ⟨⟨7, #[], #[], 0, true, 0, true⟩, []⟩
def st20_1 : Rws Nat := ⟨⟨127, #[4, 10, 15, 21, 22, 37, 38, 45, 46, 53, 56, 63, 65, 75, 88, 93, 95, 103, 110, 123], #[], 0, true, 2, true⟩, [(12, 5585261829069811460, [13, 23, 36]), (7, 5501196683615024650, [8, 46, 54]), (16, -446305762447359985, [17, 21, 38]), (11, 3867986475082221333, [12, 44, 56]), (14, 578092246843324950, [15, 22, 37]), (8, -8761912264971961947, [9, 30, 39]), (15, 8808171291442649510, [16, 42, 58]), (5, 1681511208727825837, [6, 47, 53]), (9, -1267153090632011603, [10, 45, 55]), (3, -8616171915539516363, [4, 48, 52]), (17, 8199359092200531128, [18, 41, 59]), (13, 4101994102925511743, [14, 43, 57]), (10, 4907467721398335553, [11, 24, 35]), (2, 6557567736562402379, [3, 29, 32]), (18, -5837498072869283368, [19, 31, 50]), (6, -2121671760605257763, [7, 27, 34]), (1, -1035142605352020385, [2, 49, 51]), (0, 4728867948582985703, [1, 25, 26]), (4, -4609139420669002002, [5, 28, 33]), (19, 4478795816887638907, [20, 40, 60])]⟩
def st20_2 : Rws Nat := ⟨⟨127, #[4, 10, 15, 21, 22, 37, 38, 45, 46, 53, 56, 63, 65, 75, 88, 93, 95, 103, 110, 123], #[], 0, true, 2, true⟩, [(12, 5585261829069811460, [13, 23, 36]), (7, 5501196683615024650, [8, 46, 54]), (16, -446305762447359985, [17, 21, 38]), (11, 3867986475082221333, [12, 44, 56]), (14, 578092246843324950, [15, 22, 37]), (8, -8761912264971961947, [9, 30, 39]), (15, 8808171291442649510, [16, 42, 58]), (5, 1681511208727825837, [6, 47, 53]), (9, -1267153090632011603, [10, 45, 55]), (3, -8616171915539516363, [4, 48, 52]), (17, 8199359092200531128, [18, 41, 59]), (13, 4101994102925511743, [14, 43, 57]), (10, 4907467721398335553, [11, 24, 35]), (2, 6557567736562402379, [3, 29, 32]), (18, -5837498072869283368, [19, 31, 50]), (6, -2121671760605257763, [7, 27, 34]), (1, -1035142605352020385, [2, 49, 51]), (0, 4728867948582985703, [1, 25, 26]), (4, -4609139420669002002, [5, 28, 33]), (19, 4478795816887638907, [20, 40, 60])]⟩
def st20_3 : Rws Nat := ⟨⟨127, #[4, 10, 15, 21, 22, 37, 38, 45, 46, 53, 56, 63, 65, 75, 88, 93, 95, 103, 110, 123], #[], 0, true, 2, true⟩, [(12, 5585261829069811460, [13, 23, 36]), (7, 5501196683615024650, [8, 46, 54]), (16, -446305762447359985, [17, 21, 38]), (11, 3867986475082221333, [12, 44, 56]), (14, 578092246843324950, [15, 22, 37]), (8, -8761912264971961947, [9, 30, 39]), (15, 8808171291442649510, [16, 42, 58]), (5, 1681511208727825837, [6, 47, 53]), (9, -1267153090632011603, [10, 45, 55]), (3, -8616171915539516363, [4, 48, 52]), (17, 8199359092200531128, [18, 41, 59]), (13, 4101994102925511743, [14, 43, 57]), (10, 4907467721398335553, [11, 24, 35]), (2, 6557567736562402379, [3, 29, 32]), (18, -5837498072869283368, [19, 31, 50]), (6, -2121671760605257763, [7, 27, 34]), (1, -1035142605352020385, [2, 49, 51]), (0, 4728867948582985703, [1, 25, 26]), (4, -4609139420669002002, [5, 28, 33]), (19, 4478795816887638907, [20, 40, 60])]⟩
theorem fo20_0 : foldP st20_0 it20_0 = some st20_1 := by decide +kernel
theorem fo20_1 : foldP st20_1 it20_1 = some st20_2 := by decide +kernel
theorem fo20_2 : foldP st20_2 it20_2 = some st20_3 := by decide +kernel
theorem items20 : itemsOf 20 = it20_0 ++ (it20_1 ++ (it20_2)) := by decide +kernel
theorem fold20 : FoldOk 20 := ⟨st20_3, by rw [items20]; exact foldP_app _ _ _ _ _ fo20_0 (foldP_app _ _ _ _ _ fo20_1 (fo20_2)), by decide +kernel, by decide +kernel, by decide +kernel, by decide +kernel⟩
def it97_0 : List (Nat × Int × List Int) := [(0, 4540663771929083519, [1, 122, 123]), (1, 3325075612633829083, [2, 242, 244]), (2, 5229741252390828525, [3, 145, 148]), (3, -3413133870468258103, [4, 241, 245]), (4, -5936965904840575856, [5, 144, 149]), (5, -1004299861921181520, [6, 240, 246]), (6, 3596531043858025208, [7, 143, 150]), (7, -3344151962038900578, [8, 239, 247]), (8, 1256678943740306150, [9, 142, 151]), (9, 3935884954439246657, [10, 238, 248]), (10, -3750490638486180360, [11, 141, 152]), (11, 9071024520153479593, [12, 237, 249]), (12, -3072696530814704453, [13, 140, 153]), (13, -4743354542728413485, [14, 236, 250]), (14, 4207340385663442782, [15, 139, 154]), (15, 6122360220793642153, [16, 235, 251]), (16, 6694808045727187021, [17, 138, 155]), (17, -5044346936437762228, [18, 234, 252]), (18, -4471899111504217360, [19, 137, 156]), (19, 1792984746238631550, [20, 233, 253])]
def it97_1 : List (Nat × Int × List Int) := [(20, 6393815652017838278, [21, 136, 157]), (21, 9073021662716778785, [22, 232, 254]), (22, -4772891505213566103, [23, 135, 158]), (23, 6733169562599059727, [24, 231, 255]), (24, 3445151352658000838, [25, 134, 159]), (25, 6124357363356941345, [26, 230, 256]), (26, -9102266979768576706, [27, 133, 160]), (27, -1946069934568600415, [28, 229, 257]), (28, 7004624993823255852, [29, 132, 161]), (29, -2554882133810718797, [30, 228, 258]), (30, 6395812794581137470, [31, 131, 162]), (31, 770583879511245807, [32, 227, 259]), (32, -1674614503344404290, [33, 130, 163]), (33, 4590269354398444620, [34, 226, 260]), (34, -2283426702586522672, [35, 129, 164]), (35, -6576437802832959761, [36, 225, 261]), (36, 2422750485930615095, [37, 128, 165]), (37, 2957059145865641303, [38, 224, 262]), (38, 1276046938578732342, [39, 127, 166]), (39, 3191066773708931713, [40, 223, 263])]
def it97_2 : List (Nat × Int × List Int) := [(40, -1906624988624395508, [41, 126, 167]), (41, 7897243962226069480, [42, 222, 264]), (42, 5373411927853751727, [43, 125, 168]), (43, 7288431762983951098, [44, 221, 265]), (44, 3462522204933127838, [45, 124, 169]), (45, 3567868487671058877, [46, 220, 266]), (46, 4964279221335332569, [47, 147, 194]), (47, 3801876115514349287, [48, 219, 267]), (48, -3556725003788462334, [49, 121, 170]), (49, 619204188311221437, [50, 218, 268]), (50, -305071168155976959, [51, 120, 171]), (51, 2168665906981545970, [52, 217, 269]), (52, -7886100478343472937, [53, 119, 172]), (53, 5988351381868744783, [54, 216, 270]), (54, -606063561865325702, [55, 118, 173]), (55, -779998392378291470, [56, 215, 271]), (56, -8676490859790867462, [57, 117, 174]), (57, -5343381494776592483, [58, 214, 272]), (58, 6587581286715556304, [59, 116, 175]), (59, -5109373866933302073, [60, 213, 273])]
def it97_3 : List (Nat × Int × List Int) := [(60, -4579125870515848077, [61, 115, 176]), (61, -403196678416164306, [62, 212, 274]), (62, -6490015593436471966, [63, 114, 177]), (63, -5410366260642650816, [64, 211, 275]), (64, -8908501345070858680, [65, 113, 178]), (65, 4965950515141359040, [66, 210, 276]), (66, -6421033685007114441, [67, 112, 179]), (67, 4357138315899240658, [68, 209, 277]), (68, 859003231471032794, [69, 111, 180]), (69, 2017286215781521600, [70, 208, 278]), (70, -6722026078716463184, [71, 110, 181]), (71, -6131774733660687816, [72, 207, 279]), (72, -6488018450873172774, [73, 109, 182]), (73, 4733940029861367822, [74, 206, 280]), (74, -1781841262356035007, [75, 108, 183]), (75, 4967947657704658232, [76, 205, 281]), (76, 1469812573276450368, [77, 107, 184]), (77, -3945299467306292320, [78, 204, 282]), (78, -6111216736911045610, [79, 106, 185]), (79, -3711291839463001910, [80, 203, 283])]
def it97_4 : List (Nat × Int × List Int) := [(80, 6838959766833973714, [81, 105, 186]), (81, 7154422924059053728, [82, 202, 284]), (82, 3656287839630845864, [83, 104, 187]), (83, 7832217031730529635, [84, 201, 285]), (84, -7510419317600558517, [85, 103, 188]), (85, -3334490125500874746, [86, 200, 286]), (86, 3355295445921497121, [87, 102, 189]), (87, 7531224638021180892, [88, 199, 287]), (88, 7987660456749155659, [89, 101, 190]), (89, 7765232265864471302, [90, 198, 288]), (90, 3424277354350854646, [91, 100, 191]), (91, -1148014859146479250, [92, 197, 289]), (92, 3658284982194145056, [93, 99, 192]), (93, 6132022057331667985, [94, 196, 290]), (94, 2633886972903460121, [95, 98, 193]), (95, 6809816165003143892, [96, 195, 291]), (96, -6368767767377261176, [97, 146, 243]), (97, 2633886972903460121, [95, 98, 193]), (98, 3658284982194145056, [93, 99, 192]), (99, 3424277354350854646, [91, 100, 191])]
def it97_5 : List (Nat × Int × List Int) := [(100, 7987660456749155659, [89, 101, 190]), (101, 3355295445921497121, [87, 102, 189]), (102, -7510419317600558517, [85, 103, 188]), (103, 3656287839630845864, [83, 104, 187]), (104, 6838959766833973714, [81, 105, 186]), (105, -6111216736911045610, [79, 106, 185]), (106, 1469812573276450368, [77, 107, 184]), (107, -1781841262356035007, [75, 108, 183]), (108, -6488018450873172774, [73, 109, 182]), (109, -6722026078716463184, [71, 110, 181]), (110, 859003231471032794, [69, 111, 180]), (111, -6421033685007114441, [67, 112, 179]), (112, -8908501345070858680, [65, 113, 178]), (113, -6490015593436471966, [63, 114, 177]), (114, -4579125870515848077, [61, 115, 176]), (115, 6587581286715556304, [59, 116, 175]), (116, -8676490859790867462, [57, 117, 174]), (117, -606063561865325702, [55, 118, 173]), (118, -7886100478343472937, [53, 119, 172]), (119, -305071168155976959, [51, 120, 171])]
def it97_6 : List (Nat × Int × List Int) := [(120, -3556725003788462334, [49, 121, 170]), (121, 4540663771929083519, [1, 122, 123]), (122, 4540663771929083519, [1, 122, 123]), (123, 3462522204933127838, [45, 124, 169]), (124, 5373411927853751727, [43, 125, 168]), (125, -1906624988624395508, [41, 126, 167]), (126, 1276046938578732342, [39, 127, 166]), (127, 2422750485930615095, [37, 128, 165]), (128, -2283426702586522672, [35, 129, 164]), (129, -1674614503344404290, [33, 130, 163]), (130, 6395812794581137470, [31, 131, 162]), (131, 7004624993823255852, [29, 132, 161]), (132, -9102266979768576706, [27, 133, 160]), (133, 3445151352658000838, [25, 134, 159]), (134, -4772891505213566103, [23, 135, 158]), (135, 6393815652017838278, [21, 136, 157]), (136, -4471899111504217360, [19, 137, 156]), (137, 6694808045727187021, [17, 138, 155]), (138, 4207340385663442782, [15, 139, 154]), (139, -3072696530814704453, [13, 140, 153])]
def it97_7 : List (Nat × Int × List Int) := [(140, -3750490638486180360, [11, 141, 152]), (141, 1256678943740306150, [9, 142, 151]), (142, 3596531043858025208, [7, 143, 150]), (143, -5936965904840575856, [5, 144, 149]), (144, 5229741252390828525, [3, 145, 148]), (145, -6368767767377261176, [97, 146, 243]), (146, 4964279221335332569, [47, 147, 194]), (147, 5229741252390828525, [3, 145, 148]), (148, -5936965904840575856, [5, 144, 149]), (149, 3596531043858025208, [7, 143, 150]), (150, 1256678943740306150, [9, 142, 151]), (151, -3750490638486180360, [11, 141, 152]), (152, -3072696530814704453, [13, 140, 153]), (153, 4207340385663442782, [15, 139, 154]), (154, 6694808045727187021, [17, 138, 155]), (155, -4471899111504217360, [19, 137, 156]), (156, 6393815652017838278, [21, 136, 157]), (157, -4772891505213566103, [23, 135, 158]), (158, 3445151352658000838, [25, 134, 159]), (159, -9102266979768576706, [27, 133, 160])]
def it97_8 : List (Nat × Int × List Int) := [(160, 7004624993823255852, [29, 132, 161]), (161, 6395812794581137470, [31, 131, 162]), (162, -1674614503344404290, [33, 130, 163]), (163, -2283426702586522672, [35, 129, 164]), (164, 2422750485930615095, [37, 128, 165]), (165, 1276046938578732342, [39, 127, 166]), (166, -1906624988624395508, [41, 126, 167]), (167, 5373411927853751727, [43, 125, 168]), (168, 3462522204933127838, [45, 124, 169]), (169, -3556725003788462334, [49, 121, 170]), (170, -305071168155976959, [51, 120, 171]), (171, -7886100478343472937, [53, 119, 172]), (172, -606063561865325702, [55, 118, 173]), (173, -8676490859790867462, [57, 117, 174]), (174, 6587581286715556304, [59, 116, 175]), (175, -4579125870515848077, [61, 115, 176]), (176, -6490015593436471966, [63, 114, 177]), (177, -8908501345070858680, [65, 113, 178]), (178, -6421033685007114441, [67, 112, 179]), (179, 859003231471032794, [69, 111, 180])]
def it97_9 : List (Nat × Int × List Int) := [(180, -6722026078716463184, [71, 110, 181]), (181, -6488018450873172774, [73, 109, 182]), (182, -1781841262356035007, [75, 108, 183]), (183, 1469812573276450368, [77, 107, 184]), (184, -6111216736911045610, [79, 106, 185]), (185, 6838959766833973714, [81, 105, 186]), (186, 3656287839630845864, [83, 104, 187]), (187, -7510419317600558517, [85, 103, 188]), (188, 3355295445921497121, [87, 102, 189]), (189, 7987660456749155659, [89, 101, 190]), (190, 3424277354350854646, [91, 100, 191]), (191, 3658284982194145056, [93, 99, 192]), (192, 2633886972903460121, [95, 98, 193]), (193, 4964279221335332569, [47, 147, 194]), (194, 6809816165003143892, [96, 195, 291]), (195, 6132022057331667985, [94, 196, 290]), (196, -1148014859146479250, [92, 197, 289]), (197, 7765232265864471302, [90, 198, 288]), (198, 7531224638021180892, [88, 199, 287]), (199, -3334490125500874746, [86, 200, 286])]
def it97_10 : List (Nat × Int × List Int) := [(200, 7832217031730529635, [84, 201, 285]), (201, 7154422924059053728, [82, 202, 284]), (202, -3711291839463001910, [80, 203, 283]), (203, -3945299467306292320, [78, 204, 282]), (204, 4967947657704658232, [76, 205, 281]), (205, 4733940029861367822, [74, 206, 280]), (206, -6131774733660687816, [72, 207, 279]), (207, 2017286215781521600, [70, 208, 278]), (208, 4357138315899240658, [68, 209, 277]), (209, 4965950515141359040, [66, 210, 276]), (210, -5410366260642650816, [64, 211, 275]), (211, -403196678416164306, [62, 212, 274]), (212, -5109373866933302073, [60, 213, 273]), (213, -5343381494776592483, [58, 214, 272]), (214, -779998392378291470, [56, 215, 271]), (215, 5988351381868744783, [54, 216, 270]), (216, 2168665906981545970, [52, 217, 269]), (217, 619204188311221437, [50, 218, 268]), (218, 3801876115514349287, [48, 219, 267]), (219, 3567868487671058877, [46, 220, 266])]
def it97_11 : List (Nat × Int × List Int) := [(220, 7288431762983951098, [44, 221, 265]), (221, 7897243962226069480, [42, 222, 264]), (222, 3191066773708931713, [40, 223, 263]), (223, 2957059145865641303, [38, 224, 262]), (224, -6576437802832959761, [36, 225, 261]), (225, 4590269354398444620, [34, 226, 260]), (226, 770583879511245807, [32, 227, 259]), (227, -2554882133810718797, [30, 228, 258]), (228, -1946069934568600415, [28, 229, 257]), (229, 6124357363356941345, [26, 230, 256]), (230, 6733169562599059727, [24, 231, 255]), (231, 9073021662716778785, [22, 232, 254]), (232, 1792984746238631550, [20, 233, 253]), (233, -5044346936437762228, [18, 234, 252]), (234, 6122360220793642153, [16, 235, 251]), (235, -4743354542728413485, [14, 236, 250]), (236, 9071024520153479593, [12, 237, 249]), (237, 3935884954439246657, [10, 238, 248]), (238, -3344151962038900578, [8, 239, 247]), (239, -1004299861921181520, [6, 240, 246])]
def it97_12 : List (Nat × Int × List Int) := [(240, -3413133870468258103, [4, 241, 245]), (241, 3325075612633829083, [2, 242, 244]), (242, -6368767767377261176, [97, 146, 243]), (243, 3325075612633829083, [2, 242, 244]), (244, -3413133870468258103, [4, 241, 245]), (245, -1004299861921181520, [6, 240, 246]), (246, -3344151962038900578, [8, 239, 247]), (247, 3935884954439246657, [10, 238, 248]), (248, 9071024520153479593, [12, 237, 249]), (249, -4743354542728413485, [14, 236, 250]), (250, 6122360220793642153, [16, 235, 251]), (251, -5044346936437762228, [18, 234, 252]), (252, 1792984746238631550, [20, 233, 253]), (253, 9073021662716778785, [22, 232, 254]), (254, 6733169562599059727, [24, 231, 255]), (255, 6124357363356941345, [26, 230, 256]), (256, -1946069934568600415, [28, 229, 257]), (257, -2554882133810718797, [30, 228, 258]), (258, 770583879511245807, [32, 227, 259]), (259, 4590269354398444620, [34, 226, 260])]
def it97_13 : List (Nat × Int × List Int) := [(260, -6576437802832959761, [36, 225, 261]), (261, 2957059145865641303, [38, 224, 262]), (262, 3191066773708931713, [40, 223, 263]), (263, 7897243962226069480, [42, 222, 264]), (264, 7288431762983951098, [44, 221, 265]), (265, 3567868487671058877, [46, 220, 266]), (266, 3801876115514349287, [48, 219, 267]), (267, 619204188311221437, [50, 218, 268]), (268, 2168665906981545970, [52, 217, 269]), (269, 5988351381868744783, [54, 216, 270]), (270, -779998392378291470, [56, 215, 271]), (271, -5343381494776592483, [58, 214, 272]), (272, -5109373866933302073, [60, 213, 273]), (273, -403196678416164306, [62, 212, 274]), (274, -5410366260642650816, [64, 211, 275]), (275, 4965950515141359040, [66, 210, 276]), (276, 4357138315899240658, [68, 209, 277]), (277, 2017286215781521600, [70, 208, 278]), (278, -6131774733660687816, [72, 207, 279]), (279, 4733940029861367822, [74, 206, 280])]
def it97_14 : List (Nat × Int × List Int) := [(280, 4967947657704658232, [76, 205, 281]), (281, -3945299467306292320, [78, 204, 282]), (282, -3711291839463001910, [80, 203, 283]), (283, 7154422924059053728, [82, 202, 284]), (284, 7832217031730529635, [84, 201, 285]), (285, -3334490125500874746, [86, 200, 286]), (286, 7531224638021180892, [88, 199, 287]), (287, 7765232265864471302, [90, 198, 288]), (288, -1148014859146479250, [92, 197, 289]), (289, 6132022057331667985, [94, 196, 290]), (290, 6809816165003143892, [96, 195, 291])]
def st97_0 : Rws Nat := ⟨⟨7, #[], #[], 0, true, 0, true⟩, []⟩
def st97_1 : Rws Nat := ⟨⟨127, #[16, 30, 41, 42, 48, 49, 59, 65, 73, 76, 77, 83, 91, 94, 102, 109, 112, 120, 126, 127], #[], 0, true, 2, true⟩, [(4, -5936965904840575856, [5, 144, 149]), (7, -3344151962038900578, [8, 239, 247]), (11, 9071024520153479593, [12, 237, 249]), (15, 6122360220793642153, [16, 235, 251]), (5, -1004299861921181520, [6, 240, 246]), (6, 3596531043858025208, [7, 143, 150]), (12, -3072696530814704453, [13, 140, 153]), (9, 3935884954439246657, [10, 238, 248]), (3, -3413133870468258103, [4, 241, 245]), (17, -5044346936437762228, [18, 234, 252]), (16, 6694808045727187021, [17, 138, 155]), (13, -4743354542728413485, [14, 236, 250]), (1, 3325075612633829083, [2, 242, 244]), (14, 4207340385663442782, [15, 139, 154]), (8, 1256678943740306150, [9, 142, 151]), (2, 5229741252390828525, [3, 145, 148]), (18, -4471899111504217360, [19, 137, 156]), (10, -3750490638486180360, [11, 141, 152]), (19, 1792984746238631550, [20, 233, 253]), (0, 4540663771929083519, [1, 122, 123])]⟩
def st97_2 : Rws Nat := ⟨⟨127, #[1, 15, 16, 30, 33, 34, 35, 41, 42, 44, 48, 49, 51, 54, 55, 59, 62, 63, 64, 65, 70, 71, 73, 76, 77, 78, 80, 83, 87, 91, 94, 102, 105, 109, 111, 112, 113, 120, 126, 127], #[], 0, true, 2, true⟩, [(39, 3191066773708931713, [40, 223, 263]), (23, 6733169562599059727, [24, 231, 255]), (4, -5936965904840575856, [5, 144, 149]), (7, -3344151962038900578, [8, 239, 247]), (21, 9073021662716778785, [22, 232, 254]), (25, 6124357363356941345, [26, 230, 256]), (27, -1946069934568600415, [28, 229, 257]), (11, 9071024520153479593, [12, 237, 249]), (15, 6122360220793642153, [16, 235, 251]), (28, 7004624993823255852, [29, 132, 161]), (5, -1004299861921181520, [6, 240, 246]), (6, 3596531043858025208, [7, 143, 150]), (29, -2554882133810718797, [30, 228, 258]), (38, 1276046938578732342, [39, 127, 166]), (36, 2422750485930615095, [37, 128, 165]), (12, -3072696530814704453, [13, 140, 153]), (26, -9102266979768576706, [27, 133, 160]), (30, 6395812794581137470, [31, 131, 162]), (32, -1674614503344404290, [33, 130, 163]), (9, 3935884954439246657, [10, 238, 248]), (20, 6393815652017838278, [21, 136, 157]), (24, 3445151352658000838, [25, 134, 159]), (3, -3413133870468258103, [4, 241, 245]), (17, -5044346936437762228, [18, 234, 252]), (16, 6694808045727187021, [17, 138, 155]), (33, 4590269354398444620, [34, 226, 260]), (34, -2283426702586522672, [35, 129, 164]), (13, -4743354542728413485, [14, 236, 250]), (37, 2957059145865641303, [38, 224, 262]), (1, 3325075612633829083, [2, 242, 244]), (14, 4207340385663442782, [15, 139, 154]), (8, 1256678943740306150, [9, 142, 151]), (22, -4772891505213566103, [23, 135, 158]), (2, 5229741252390828525, [3, 145, 148]), (31, 770583879511245807, [32, 227, 259]), (18, -4471899111504217360, [19, 137, 156]), (35, -6576437802832959761, [36, 225, 261]), (10, -3750490638486180360, [11, 141, 152]), (19, 1792984746238631550, [20, 233, 253]), (0, 4540663771929083519, [1, 122, 123])]⟩
def st97_3 : Rws Nat := ⟨⟨127, #[1, 2, 3, 4, 12, 15, 16, 29, 30, 31, 33, 34, 35, 41, 42, 44, 47, 48, 49, 51, 54, 55, 59, 61, 62, 63, 64, 65, 66, 70, 71, 72, 73, 76, 77, 78, 79, 80, 81, 83, 87, 88, 89, 91, 92, 94, 102, 103, 104, 105, 109, 111, 112, 113, 114, 115, 120, 122, 126, 127], #[], 0, true, 2, true⟩, [(39, 3191066773708931713, [40, 223, 263]), (48, -3556725003788462334, [49, 121, 170]), (50, -305071168155976959, [51, 120, 171]), (56, -8676490859790867462, [57, 117, 174]), (40, -1906624988624395508, [41, 126, 167]), (23, 6733169562599059727, [24, 231, 255]), (4, -5936965904840575856, [5, 144, 149]), (57, -5343381494776592483, [58, 214, 272]), (7, -3344151962038900578, [8, 239, 247]), (44, 3462522204933127838, [45, 124, 169]), (21, 9073021662716778785, [22, 232, 254]), (25, 6124357363356941345, [26, 230, 256]), (27, -1946069934568600415, [28, 229, 257]), (11, 9071024520153479593, [12, 237, 249]), (15, 6122360220793642153, [16, 235, 251]), (28, 7004624993823255852, [29, 132, 161]), (42, 5373411927853751727, [43, 125, 168]), (5, -1004299861921181520, [6, 240, 246]), (6, 3596531043858025208, [7, 143, 150]), (29, -2554882133810718797, [30, 228, 258]), (38, 1276046938578732342, [39, 127, 166]), (36, 2422750485930615095, [37, 128, 165]), (12, -3072696530814704453, [13, 140, 153]), (45, 3567868487671058877, [46, 220, 266]), (26, -9102266979768576706, [27, 133, 160]), (30, 6395812794581137470, [31, 131, 162]), (32, -1674614503344404290, [33, 130, 163]), (9, 3935884954439246657, [10, 238, 248]), (49, 619204188311221437, [50, 218, 268]), (20, 6393815652017838278, [21, 136, 157]), (24, 3445151352658000838, [25, 134, 159]), (59, -5109373866933302073, [60, 213, 273]), (3, -3413133870468258103, [4, 241, 245]), (17, -5044346936437762228, [18, 234, 252]), (16, 6694808045727187021, [17, 138, 155]), (33, 4590269354398444620, [34, 226, 260]), (53, 5988351381868744783, [54, 216, 270]), (34, -2283426702586522672, [35, 129, 164]), (58, 6587581286715556304, [59, 116, 175]), (13, -4743354542728413485, [14, 236, 250]), (37, 2957059145865641303, [38, 224, 262]), (52, -7886100478343472937, [53, 119, 172]), (46, 4964279221335332569, [47, 147, 194]), (1, 3325075612633829083, [2, 242, 244]), (54, -606063561865325702, [55, 118, 173]), (14, 4207340385663442782, [15, 139, 154]), (8, 1256678943740306150, [9, 142, 151]), (47, 3801876115514349287, [48, 219, 267]), (41, 7897243962226069480, [42, 222, 264]), (22, -4772891505213566103, [23, 135, 158]), (2, 5229741252390828525, [3, 145, 148]), (31, 770583879511245807, [32, 227, 259]), (18, -4471899111504217360, [19, 137, 156]), (35, -6576437802832959761, [36, 225, 261]), (51, 2168665906981545970, [52, 217, 269]), (55, -779998392378291470, [56, 215, 271]), (10, -3750490638486180360, [11, 141, 152]), (43, 7288431762983951098, [44, 221, 265]), (19, 1792984746238631550, [20, 233, 253]), (0, 4540663771929083519, [1, 122, 123])]⟩
def st97_4 : Rws Nat := ⟨⟨511, #[14, 22, 33, 46, 56, 62, 64, 65, 72, 76, 77, 79, 115, 126, 127, 129, 144, 158, 159, 161, 169, 176, 187, 189, 190, 192, 198, 199, 201, 202, 210, 211, 215, 217, 218, 219, 230, 231, 239, 240, 242, 248, 250, 257, 258, 268, 271, 289, 300, 310, 311, 312, 313, 318, 320, 321, 332, 343, 350, 354, 361, 378, 413, 416, 425, 431, 432, 435, 445, 448, 454, 464, 465, 474, 488, 493, 495, 498, 504, 506], #[], 0, true, 3, true⟩, [(73, 4733940029861367822, [74, 206, 280]), (78, -6111216736911045610, [79, 106, 185]), (25, 6124357363356941345, [26, 230, 256]), (61, -403196678416164306, [62, 212, 274]), (71, -6131774733660687816, [72, 207, 279]), (30, 6395812794581137470, [31, 131, 162]), (76, 1469812573276450368, [77, 107, 184]), (74, -1781841262356035007, [75, 108, 183]), (64, -8908501345070858680, [65, 113, 178]), (33, 4590269354398444620, [34, 226, 260]), (16, 6694808045727187021, [17, 138, 155]), (53, 5988351381868744783, [54, 216, 270]), (60, -4579125870515848077, [61, 115, 176]), (19, 1792984746238631550, [20, 233, 253]), (0, 4540663771929083519, [1, 122, 123]), (39, 3191066773708931713, [40, 223, 263]), (4, -5936965904840575856, [5, 144, 149]), (7, -3344151962038900578, [8, 239, 247]), (44, 3462522204933127838, [45, 124, 169]), (27, -1946069934568600415, [28, 229, 257]), (15, 6122360220793642153, [16, 235, 251]), (5, -1004299861921181520, [6, 240, 246]), (12, -3072696530814704453, [13, 140, 153]), (49, 619204188311221437, [50, 218, 268]), (32, -1674614503344404290, [33, 130, 163]), (69, 2017286215781521600, [70, 208, 278]), (20, 6393815652017838278, [21, 136, 157]), (59, -5109373866933302073, [60, 213, 273]), (3, -3413133870468258103, [4, 241, 245]), (79, -3711291839463001910, [80, 203, 283]), (67, 4357138315899240658, [68, 209, 277]), (13, -4743354542728413485, [14, 236, 250]), (52, -7886100478343472937, [53, 119, 172]), (46, 4964279221335332569, [47, 147, 194]), (72, -6488018450873172774, [73, 109, 182]), (1, 3325075612633829083, [2, 242, 244]), (8, 1256678943740306150, [9, 142, 151]), (47, 3801876115514349287, [48, 219, 267]), (35, -6576437802832959761, [36, 225, 261]), (18, -4471899111504217360, [19, 137, 156]), (55, -779998392378291470, [56, 215, 271]), (6, 3596531043858025208, [7, 143, 150]), (43, 7288431762983951098, [44, 221, 265]), (50, -305071168155976959, [51, 120, 171]), (48, -3556725003788462334, [49, 121, 170]), (40, -1906624988624395508, [41, 126, 167]), (23, 6733169562599059727, [24, 231, 255]), (21, 9073021662716778785, [22, 232, 254]), (28, 7004624993823255852, [29, 132, 161]), (38, 1276046938578732342, [39, 127, 166]), (36, 2422750485930615095, [37, 128, 165]), (66, -6421033685007114441, [67, 112, 179]), (75, 4967947657704658232, [76, 205, 281]), (26, -9102266979768576706, [27, 133, 160]), (63, -5410366260642650816, [64, 211, 275]), (9, 3935884954439246657, [10, 238, 248]), (17, -5044346936437762228, [18, 234, 252]), (37, 2957059145865641303, [38, 224, 262]), (14, 4207340385663442782, [15, 139, 154]), (62, -6490015593436471966, [63, 114, 177]), (22, -4772891505213566103, [23, 135, 158]), (54, -606063561865325702, [55, 118, 173]), (57, -5343381494776592483, [58, 214, 272]), (77, -3945299467306292320, [78, 204, 282]), (11, 9071024520153479593, [12, 237, 249]), (42, 5373411927853751727, [43, 125, 168]), (70, -6722026078716463184, [71, 110, 181]), (29, -2554882133810718797, [30, 228, 258]), (45, 3567868487671058877, [46, 220, 266]), (65, 4965950515141359040, [66, 210, 276]), (24, 3445151352658000838, [25, 134, 159]), (34, -2283426702586522672, [35, 129, 164]), (58, 6587581286715556304, [59, 116, 175]), (68, 859003231471032794, [69, 111, 180]), (41, 7897243962226069480, [42, 222, 264]), (2, 5229741252390828525, [3, 145, 148]), (31, 770583879511245807, [32, 227, 259]), (51, 2168665906981545970, [52, 217, 269]), (10, -3750490638486180360, [11, 141, 152]), (56, -8676490859790867462, [57, 117, 174])]⟩
def st97_5 : Rws Nat := ⟨⟨511, #[6, 14, 17, 22, 33, 34, 46, 56, 62, 64, 65, 72, 75, 76, 77, 79, 115, 126, 127, 129, 144, 158, 159, 160, 161, 169, 176, 187, 189, 190, 192, 198, 199, 201, 202, 210, 211, 212, 215, 217, 218, 219, 230, 231, 239, 240, 242, 248, 250, 257, 258, 262, 268, 271, 281, 288, 289, 300, 310, 311, 312, 313, 318, 320, 321, 331, 332, 343, 350, 354, 355, 361, 366, 378, 392, 413, 416, 424, 425, 431, 432, 435, 445, 448, 454, 464, 465, 466, 474, 476, 488, 493, 495, 498, 502, 504, 506], #[], 0, true, 3, true⟩, [(85, -3334490125500874746, [86, 200, 286]), (73, 4733940029861367822, [74, 206, 280]), (93, 6132022057331667985, [94, 196, 290]), (78, -6111216736911045610, [79, 106, 185]), (25, 6124357363356941345, [26, 230, 256]), (86, 3355295445921497121, [87, 102, 189]), (61, -403196678416164306, [62, 212, 274]), (71, -6131774733660687816, [72, 207, 279]), (30, 6395812794581137470, [31, 131, 162]), (76, 1469812573276450368, [77, 107, 184]), (74, -1781841262356035007, [75, 108, 183]), (64, -8908501345070858680, [65, 113, 178]), (84, -7510419317600558517, [85, 103, 188]), (33, 4590269354398444620, [34, 226, 260]), (16, 6694808045727187021, [17, 138, 155]), (53, 5988351381868744783, [54, 216, 270]), (60, -4579125870515848077, [61, 115, 176]), (19, 1792984746238631550, [20, 233, 253]), (0, 4540663771929083519, [1, 122, 123]), (39, 3191066773708931713, [40, 223, 263]), (4, -5936965904840575856, [5, 144, 149]), (7, -3344151962038900578, [8, 239, 247]), (44, 3462522204933127838, [45, 124, 169]), (81, 7154422924059053728, [82, 202, 284]), (27, -1946069934568600415, [28, 229, 257]), (15, 6122360220793642153, [16, 235, 251]), (5, -1004299861921181520, [6, 240, 246]), (12, -3072696530814704453, [13, 140, 153]), (49, 619204188311221437, [50, 218, 268]), (32, -1674614503344404290, [33, 130, 163]), (69, 2017286215781521600, [70, 208, 278]), (20, 6393815652017838278, [21, 136, 157]), (59, -5109373866933302073, [60, 213, 273]), (3, -3413133870468258103, [4, 241, 245]), (79, -3711291839463001910, [80, 203, 283]), (67, 4357138315899240658, [68, 209, 277]), (13, -4743354542728413485, [14, 236, 250]), (95, 6809816165003143892, [96, 195, 291]), (52, -7886100478343472937, [53, 119, 172]), (46, 4964279221335332569, [47, 147, 194]), (72, -6488018450873172774, [73, 109, 182]), (1, 3325075612633829083, [2, 242, 244]), (8, 1256678943740306150, [9, 142, 151]), (47, 3801876115514349287, [48, 219, 267]), (35, -6576437802832959761, [36, 225, 261]), (18, -4471899111504217360, [19, 137, 156]), (55, -779998392378291470, [56, 215, 271]), (6, 3596531043858025208, [7, 143, 150]), (43, 7288431762983951098, [44, 221, 265]), (50, -305071168155976959, [51, 120, 171]), (48, -3556725003788462334, [49, 121, 170]), (89, 7765232265864471302, [90, 198, 288]), (40, -1906624988624395508, [41, 126, 167]), (23, 6733169562599059727, [24, 231, 255]), (94, 2633886972903460121, [95, 98, 193]), (92, 3658284982194145056, [93, 99, 192]), (21, 9073021662716778785, [22, 232, 254]), (28, 7004624993823255852, [29, 132, 161]), (38, 1276046938578732342, [39, 127, 166]), (36, 2422750485930615095, [37, 128, 165]), (66, -6421033685007114441, [67, 112, 179]), (75, 4967947657704658232, [76, 205, 281]), (26, -9102266979768576706, [27, 133, 160]), (63, -5410366260642650816, [64, 211, 275]), (9, 3935884954439246657, [10, 238, 248]), (88, 7987660456749155659, [89, 101, 190]), (17, -5044346936437762228, [18, 234, 252]), (37, 2957059145865641303, [38, 224, 262]), (14, 4207340385663442782, [15, 139, 154]), (62, -6490015593436471966, [63, 114, 177]), (83, 7832217031730529635, [84, 201, 285]), (22, -4772891505213566103, [23, 135, 158]), (91, -1148014859146479250, [92, 197, 289]), (54, -606063561865325702, [55, 118, 173]), (96, -6368767767377261176, [97, 146, 243]), (57, -5343381494776592483, [58, 214, 272]), (77, -3945299467306292320, [78, 204, 282]), (82, 3656287839630845864, [83, 104, 187]), (11, 9071024520153479593, [12, 237, 249]), (42, 5373411927853751727, [43, 125, 168]), (70, -6722026078716463184, [71, 110, 181]), (29, -2554882133810718797, [30, 228, 258]), (45, 3567868487671058877, [46, 220, 266]), (65, 4965950515141359040, [66, 210, 276]), (24, 3445151352658000838, [25, 134, 159]), (34, -2283426702586522672, [35, 129, 164]), (58, 6587581286715556304, [59, 116, 175]), (80, 6838959766833973714, [81, 105, 186]), (68, 859003231471032794, [69, 111, 180]), (87, 7531224638021180892, [88, 199, 287]), (41, 7897243962226069480, [42, 222, 264]), (2, 5229741252390828525, [3, 145, 148]), (31, 770583879511245807, [32, 227, 259]), (51, 2168665906981545970, [52, 217, 269]), (90, 3424277354350854646, [91, 100, 191]), (10, -3750490638486180360, [11, 141, 152]), (56, -8676490859790867462, [57, 117, 174])]⟩
def st97_6 : Rws Nat := ⟨⟨511, #[6, 14, 17, 22, 33, 34, 46, 56, 62, 64, 65, 72, 75, 76, 77, 79, 115, 126, 127, 129, 144, 158, 159, 160, 161, 169, 176, 187, 189, 190, 192, 198, 199, 201, 202, 210, 211, 212, 215, 217, 218, 219, 230, 231, 239, 240, 242, 248, 250, 257, 258, 262, 268, 271, 281, 288, 289, 300, 310, 311, 312, 313, 318, 320, 321, 331, 332, 343, 350, 354, 355, 361, 366, 378, 392, 413, 416, 424, 425, 431, 432, 435, 445, 448, 454, 464, 465, 466, 474, 476, 488, 493, 495, 498, 502, 504, 506], #[], 0, true, 3, true⟩, [(85, -3334490125500874746, [86, 200, 286]), (73, 4733940029861367822, [74, 206, 280]), (93, 6132022057331667985, [94, 196, 290]), (78, -6111216736911045610, [79, 106, 185]), (25, 6124357363356941345, [26, 230, 256]), (86, 3355295445921497121, [87, 102, 189]), (61, -403196678416164306, [62, 212, 274]), (71, -6131774733660687816, [72, 207, 279]), (30, 6395812794581137470, [31, 131, 162]), (76, 1469812573276450368, [77, 107, 184]), (74, -1781841262356035007, [75, 108, 183]), (64, -8908501345070858680, [65, 113, 178]), (84, -7510419317600558517, [85, 103, 188]), (33, 4590269354398444620, [34, 226, 260]), (16, 6694808045727187021, [17, 138, 155]), (53, 5988351381868744783, [54, 216, 270]), (60, -4579125870515848077, [61, 115, 176]), (19, 1792984746238631550, [20, 233, 253]), (0, 4540663771929083519, [1, 122, 123]), (39, 3191066773708931713, [40, 223, 263]), (4, -5936965904840575856, [5, 144, 149]), (7, -3344151962038900578, [8, 239, 247]), (44, 3462522204933127838, [45, 124, 169]), (81, 7154422924059053728, [82, 202, 284]), (27, -1946069934568600415, [28, 229, 257]), (15, 6122360220793642153, [16, 235, 251]), (5, -1004299861921181520, [6, 240, 246]), (12, -3072696530814704453, [13, 140, 153]), (49, 619204188311221437, [50, 218, 268]), (32, -1674614503344404290, [33, 130, 163]), (69, 2017286215781521600, [70, 208, 278]), (20, 6393815652017838278, [21, 136, 157]), (59, -5109373866933302073, [60, 213, 273]), (3, -3413133870468258103, [4, 241, 245]), (79, -3711291839463001910, [80, 203, 283]), (67, 4357138315899240658, [68, 209, 277]), (13, -4743354542728413485, [14, 236, 250]), (95, 6809816165003143892, [96, 195, 291]), (52, -7886100478343472937, [53, 119, 172]), (46, 4964279221335332569, [47, 147, 194]), (72, -6488018450873172774, [73, 109, 182]), (1, 3325075612633829083, [2, 242, 244]), (8, 1256678943740306150, [9, 142, 151]), (47, 3801876115514349287, [48, 219, 267]), (35, -6576437802832959761, [36, 225, 261]), (18, -4471899111504217360, [19, 137, 156]), (55, -779998392378291470, [56, 215, 271]), (6, 3596531043858025208, [7, 143, 150]), (43, 7288431762983951098, [44, 221, 265]), (50, -305071168155976959, [51, 120, 171]), (48, -3556725003788462334, [49, 121, 170]), (89, 7765232265864471302, [90, 198, 288]), (40, -1906624988624395508, [41, 126, 167]), (23, 6733169562599059727, [24, 231, 255]), (94, 2633886972903460121, [95, 98, 193]), (92, 3658284982194145056, [93, 99, 192]), (21, 9073021662716778785, [22, 232, 254]), (28, 7004624993823255852, [29, 132, 161]), (38, 1276046938578732342, [39, 127, 166]), (36, 2422750485930615095, [37, 128, 165]), (66, -6421033685007114441, [67, 112, 179]), (75, 4967947657704658232, [76, 205, 281]), (26, -9102266979768576706, [27, 133, 160]), (63, -5410366260642650816, [64, 211, 275]), (9, 3935884954439246657, [10, 238, 248]), (88, 7987660456749155659, [89, 101, 190]), (17, -5044346936437762228, [18, 234, 252]), (37, 2957059145865641303, [38, 224, 262]), (14, 4207340385663442782, [15, 139, 154]), (62, -6490015593436471966, [63, 114, 177]), (83, 7832217031730529635, [84, 201, 285]), (22, -4772891505213566103, [23, 135, 158]), (91, -1148014859146479250, [92, 197, 289]), (54, -606063561865325702, [55, 118, 173]), (96, -6368767767377261176, [97, 146, 243]), (57, -5343381494776592483, [58, 214, 272]), (77, -3945299467306292320, [78, 204, 282]), (82, 3656287839630845864, [83, 104, 187]), (11, 9071024520153479593, [12, 237, 249]), (42, 5373411927853751727, [43, 125, 168]), (70, -6722026078716463184, [71, 110, 181]), (29, -2554882133810718797, [30, 228, 258]), (45, 3567868487671058877, [46, 220, 266]), (65, 4965950515141359040, [66, 210, 276]), (24, 3445151352658000838, [25, 134, 159]), (34, -2283426702586522672, [35, 129, 164]), (58, 6587581286715556304, [59, 116, 175]), (80, 6838959766833973714, [81, 105, 186]), (68, 859003231471032794, [69, 111, 180]), (87, 7531224638021180892, [88, 199, 287]), (41, 7897243962226069480, [42, 222, 264]), (2, 5229741252390828525, [3, 145, 148]), (31, 770583879511245807, [32, 227, 259]), (51, 2168665906981545970, [52, 217, 269]), (90, 3424277354350854646, [91, 100, 191]), (10, -3750490638486180360, [11, 141, 152]), (56, -8676490859790867462, [57, 117, 174])]⟩
def st97_7 : Rws Nat := ⟨⟨511, #[6, 14, 17, 22, 33, 34, 46, 56, 62, 64, 65, 72, 75, 76, 77, 79, 115, 126, 127, 129, 144, 158, 159, 160, 161, 169, 176, 187, 189, 190, 192, 198, 199, 201, 202, 210, 211, 212, 215, 217, 218, 219, 230, 231, 239, 240, 242, 248, 250, 257, 258, 262, 268, 271, 281, 288, 289, 300, 310, 311, 312, 313, 318, 320, 321, 331, 332, 343, 350, 354, 355, 361, 366, 378, 392, 413, 416, 424, 425, 431, 432, 435, 445, 448, 454, 464, 465, 466, 474, 476, 488, 493, 495, 498, 502, 504, 506], #[], 0, true, 3, true⟩, [(85, -3334490125500874746, [86, 200, 286]), (73, 4733940029861367822, [74, 206, 280]), (93, 6132022057331667985, [94, 196, 290]), (78, -6111216736911045610, [79, 106, 185]), (25, 6124357363356941345, [26, 230, 256]), (86, 3355295445921497121, [87, 102, 189]), (61, -403196678416164306, [62, 212, 274]), (71, -6131774733660687816, [72, 207, 279]), (30, 6395812794581137470, [31, 131, 162]), (76, 1469812573276450368, [77, 107, 184]), (74, -1781841262356035007, [75, 108, 183]), (64, -8908501345070858680, [65, 113, 178]), (84, -7510419317600558517, [85, 103, 188]), (33, 4590269354398444620, [34, 226, 260]), (16, 6694808045727187021, [17, 138, 155]), (53, 5988351381868744783, [54, 216, 270]), (60, -4579125870515848077, [61, 115, 176]), (19, 1792984746238631550, [20, 233, 253]), (0, 4540663771929083519, [1, 122, 123]), (39, 3191066773708931713, [40, 223, 263]), (4, -5936965904840575856, [5, 144, 149]), (7, -3344151962038900578, [8, 239, 247]), (44, 3462522204933127838, [45, 124, 169]), (81, 7154422924059053728, [82, 202, 284]), (27, -1946069934568600415, [28, 229, 257]), (15, 6122360220793642153, [16, 235, 251]), (5, -1004299861921181520, [6, 240, 246]), (12, -3072696530814704453, [13, 140, 153]), (49, 619204188311221437, [50, 218, 268]), (32, -1674614503344404290, [33, 130, 163]), (69, 2017286215781521600, [70, 208, 278]), (20, 6393815652017838278, [21, 136, 157]), (59, -5109373866933302073, [60, 213, 273]), (3, -3413133870468258103, [4, 241, 245]), (79, -3711291839463001910, [80, 203, 283]), (67, 4357138315899240658, [68, 209, 277]), (13, -4743354542728413485, [14, 236, 250]), (95, 6809816165003143892, [96, 195, 291]), (52, -7886100478343472937, [53, 119, 172]), (46, 4964279221335332569, [47, 147, 194]), (72, -6488018450873172774, [73, 109, 182]), (1, 3325075612633829083, [2, 242, 244]), (8, 1256678943740306150, [9, 142, 151]), (47, 3801876115514349287, [48, 219, 267]), (35, -6576437802832959761, [36, 225, 261]), (18, -4471899111504217360, [19, 137, 156]), (55, -779998392378291470, [56, 215, 271]), (6, 3596531043858025208, [7, 143, 150]), (43, 7288431762983951098, [44, 221, 265]), (50, -305071168155976959, [51, 120, 171]), (48, -3556725003788462334, [49, 121, 170]), (89, 7765232265864471302, [90, 198, 288]), (40, -1906624988624395508, [41, 126, 167]), (23, 6733169562599059727, [24, 231, 255]), (94, 2633886972903460121, [95, 98, 193]), (92, 3658284982194145056, [93, 99, 192]), (21, 9073021662716778785, [22, 232, 254]), (28, 7004624993823255852, [29, 132, 161]), (38, 1276046938578732342, [39, 127, 166]), (36, 2422750485930615095, [37, 128, 165]), (66, -6421033685007114441, [67, 112, 179]), (75, 4967947657704658232, [76, 205, 281]), (26, -9102266979768576706, [27, 133, 160]), (63, -5410366260642650816, [64, 211, 275]), (9, 3935884954439246657, [10, 238, 248]), (88, 7987660456749155659, [89, 101, 190]), (17, -5044346936437762228, [18, 234, 252]), (37, 2957059145865641303, [38, 224, 262]), (14, 4207340385663442782, [15, 139, 154]), (62, -6490015593436471966, [63, 114, 177]), (83, 7832217031730529635, [84, 201, 285]), (22, -4772891505213566103, [23, 135, 158]), (91, -1148014859146479250, [92, 197, 289]), (54, -606063561865325702, [55, 118, 173]), (96, -6368767767377261176, [97, 146, 243]), (57, -5343381494776592483, [58, 214, 272]), (77, -3945299467306292320, [78, 204, 282]), (82, 3656287839630845864, [83, 104, 187]), (11, 9071024520153479593, [12, 237, 249]), (42, 5373411927853751727, [43, 125, 168]), (70, -6722026078716463184, [71, 110, 181]), (29, -2554882133810718797, [30, 228, 258]), (45, 3567868487671058877, [46, 220, 266]), (65, 4965950515141359040, [66, 210, 276]), (24, 3445151352658000838, [25, 134, 159]), (34, -2283426702586522672, [35, 129, 164]), (58, 6587581286715556304, [59, 116, 175]), (80, 6838959766833973714, [81, 105, 186]), (68, 859003231471032794, [69, 111, 180]), (87, 7531224638021180892, [88, 199, 287]), (41, 7897243962226069480, [42, 222, 264]), (2, 5229741252390828525, [3, 145, 148]), (31, 770583879511245807, [32, 227, 259]), (51, 2168665906981545970, [52, 217, 269]), (90, 3424277354350854646, [91, 100, 191]), (10, -3750490638486180360, [11, 141, 152]), (56, -8676490859790867462, [57, 117, 174])]⟩
def st97_8 : Rws Nat := ⟨⟨511, #[6, 14, 17, 22, 33, 34, 46, 56, 62, 64, 65, 72, 75, 76, 77, 79, 115, 126, 127, 129, 144, 158, 159, 160, 161, 169, 176, 187, 189, 190, 192, 198, 199, 201, 202, 210, 211, 212, 215, 217, 218, 219, 230, 231, 239, 240, 242, 248, 250, 257, 258, 262, 268, 271, 281, 288, 289, 300, 310, 311, 312, 313, 318, 320, 321, 331, 332, 343, 350, 354, 355, 361, 366, 378, 392, 413, 416, 424, 425, 431, 432, 435, 445, 448, 454, 464, 465, 466, 474, 476, 488, 493, 495, 498, 502, 504, 506], #[], 0, true, 3, true⟩, [(85, -3334490125500874746, [86, 200, 286]), (73, 4733940029861367822, [74, 206, 280]), (93, 6132022057331667985, [94, 196, 290]), (78, -6111216736911045610, [79, 106, 185]), (25, 6124357363356941345, [26, 230, 256]), (86, 3355295445921497121, [87, 102, 189]), (61, -403196678416164306, [62, 212, 274]), (71, -6131774733660687816, [72, 207, 279]), (30, 6395812794581137470, [31, 131, 162]), (76, 1469812573276450368, [77, 107, 184]), (74, -1781841262356035007, [75, 108, 183]), (64, -8908501345070858680, [65, 113, 178]), (84, -7510419317600558517, [85, 103, 188]), (33, 4590269354398444620, [34, 226, 260]), (16, 6694808045727187021, [17, 138, 155]), (53, 5988351381868744783, [54, 216, 270]), (60, -4579125870515848077, [61, 115, 176]), (19, 1792984746238631550, [20, 233, 253]), (0, 4540663771929083519, [1, 122, 123]), (39, 3191066773708931713, [40, 223, 263]), (4, -5936965904840575856, [5, 144, 149]), (7, -3344151962038900578, [8, 239, 247]), (44, 3462522204933127838, [45, 124, 169]), (81, 7154422924059053728, [82, 202, 284]), (27, -1946069934568600415, [28, 229, 257]), (15, 6122360220793642153, [16, 235, 251]), (5, -1004299861921181520, [6, 240, 246]), (12, -3072696530814704453, [13, 140, 153]), (49, 619204188311221437, [50, 218, 268]), (32, -1674614503344404290, [33, 130, 163]), (69, 2017286215781521600, [70, 208, 278]), (20, 6393815652017838278, [21, 136, 157]), (59, -5109373866933302073, [60, 213, 273]), (3, -3413133870468258103, [4, 241, 245]), (79, -3711291839463001910, [80, 203, 283]), (67, 4357138315899240658, [68, 209, 277]), (13, -4743354542728413485, [14, 236, 250]), (95, 6809816165003143892, [96, 195, 291]), (52, -7886100478343472937, [53, 119, 172]), (46, 4964279221335332569, [47, 147, 194]), (72, -6488018450873172774, [73, 109, 182]), (1, 3325075612633829083, [2, 242, 244]), (8, 1256678943740306150, [9, 142, 151]), (47, 3801876115514349287, [48, 219, 267]), (35, -6576437802832959761, [36, 225, 261]), (18, -4471899111504217360, [19, 137, 156]), (55, -779998392378291470, [56, 215, 271]), (6, 3596531043858025208, [7, 143, 150]), (43, 7288431762983951098, [44, 221, 265]), (50, -305071168155976959, [51, 120, 171]), (48, -3556725003788462334, [49, 121, 170]), (89, 7765232265864471302, [90, 198, 288]), (40, -1906624988624395508, [41, 126, 167]), (23, 6733169562599059727, [24, 231, 255]), (94, 2633886972903460121, [95, 98, 193]), (92, 3658284982194145056, [93, 99, 192]), (21, 9073021662716778785, [22, 232, 254]), (28, 7004624993823255852, [29, 132, 161]), (38, 1276046938578732342, [39, 127, 166]), (36, 2422750485930615095, [37, 128, 165]), (66, -6421033685007114441, [67, 112, 179]), (75, 4967947657704658232, [76, 205, 281]), (26, -9102266979768576706, [27, 133, 160]), (63, -5410366260642650816, [64, 211, 275]), (9, 3935884954439246657, [10, 238, 248]), (88, 7987660456749155659, [89, 101, 190]), (17, -5044346936437762228, [18, 234, 252]), (37, 2957059145865641303, [38, 224, 262]), (14, 4207340385663442782, [15, 139, 154]), (62, -6490015593436471966, [63, 114, 177]), (83, 7832217031730529635, [84, 201, 285]), (22, -4772891505213566103, [23, 135, 158]), (91, -1148014859146479250, [92, 197, 289]), (54, -606063561865325702, [55, 118, 173]), (96, -6368767767377261176, [97, 146, 243]), (57, -5343381494776592483, [58, 214, 272]), (77, -3945299467306292320, [78, 204, 282]), (82, 3656287839630845864, [83, 104, 187]), (11, 9071024520153479593, [12, 237, 249]), (42, 5373411927853751727, [43, 125, 168]), (70, -6722026078716463184, [71, 110, 181]), (29, -2554882133810718797, [30, 228, 258]), (45, 3567868487671058877, [46, 220, 266]), (65, 4965950515141359040, [66, 210, 276]), (24, 3445151352658000838, [25, 134, 159]), (34, -2283426702586522672, [35, 129, 164]), (58, 6587581286715556304, [59, 116, 175]), (80, 6838959766833973714, [81, 105, 186]), (68, 859003231471032794, [69, 111, 180]), (87, 7531224638021180892, [88, 199, 287]), (41, 7897243962226069480, [42, 222, 264]), (2, 5229741252390828525, [3, 145, 148]), (31, 770583879511245807, [32, 227, 259]), (51, 2168665906981545970, [52, 217, 269]), (90, 3424277354350854646, [91, 100, 191]), (10, -3750490638486180360, [11, 141, 152]), (56, -8676490859790867462, [57, 117, 174])]⟩
def st97_9 : Rws Nat := ⟨⟨511, #[6, 14, 17, 22, 33, 34, 46, 56, 62, 64, 65, 72, 75, 76, 77, 79, 115, 126, 127, 129, 144, 158, 159, 160, 161, 169, 176, 187, 189, 190, 192, 198, 199, 201, 202, 210, 211, 212, 215, 217, 218, 219, 230, 231, 239, 240, 242, 248, 250, 257, 258, 262, 268, 271, 281, 288, 289, 300, 310, 311, 312, 313, 318, 320, 321, 331, 332, 343, 350, 354, 355, 361, 366, 378, 392, 413, 416, 424, 425, 431, 432, 435, 445, 448, 454, 464, 465, 466, 474, 476, 488, 493, 495, 498, 502, 504, 506], #[], 0, true, 3, true⟩, [(85, -3334490125500874746, [86, 200, 286]), (73, 4733940029861367822, [74, 206, 280]), (93, 6132022057331667985, [94, 196, 290]), (78, -6111216736911045610, [79, 106, 185]), (25, 6124357363356941345, [26, 230, 256]), (86, 3355295445921497121, [87, 102, 189]), (61, -403196678416164306, [62, 212, 274]), (71, -6131774733660687816, [72, 207, 279]), (30, 6395812794581137470, [31, 131, 162]), (76, 1469812573276450368, [77, 107, 184]), (74, -1781841262356035007, [75, 108, 183]), (64, -8908501345070858680, [65, 113, 178]), (84, -7510419317600558517, [85, 103, 188]), (33, 4590269354398444620, [34, 226, 260]), (16, 6694808045727187021, [17, 138, 155]), (53, 5988351381868744783, [54, 216, 270]), (60, -4579125870515848077, [61, 115, 176]), (19, 1792984746238631550, [20, 233, 253]), (0, 4540663771929083519, [1, 122, 123]), (39, 3191066773708931713, [40, 223, 263]), (4, -5936965904840575856, [5, 144, 149]), (7, -3344151962038900578, [8, 239, 247]), (44, 3462522204933127838, [45, 124, 169]), (81, 7154422924059053728, [82, 202, 284]), (27, -1946069934568600415, [28, 229, 257]), (15, 6122360220793642153, [16, 235, 251]), (5, -1004299861921181520, [6, 240, 246]), (12, -3072696530814704453, [13, 140, 153]), (49, 619204188311221437, [50, 218, 268]), (32, -1674614503344404290, [33, 130, 163]), (69, 2017286215781521600, [70, 208, 278]), (20, 6393815652017838278, [21, 136, 157]), (59, -5109373866933302073, [60, 213, 273]), (3, -3413133870468258103, [4, 241, 245]), (79, -3711291839463001910, [80, 203, 283]), (67, 4357138315899240658, [68, 209, 277]), (13, -4743354542728413485, [14, 236, 250]), (95, 6809816165003143892, [96, 195, 291]), (52, -7886100478343472937, [53, 119, 172]), (46, 4964279221335332569, [47, 147, 194]), (72, -6488018450873172774, [73, 109, 182]), (1, 3325075612633829083, [2, 242, 244]), (8, 1256678943740306150, [9, 142, 151]), (47, 3801876115514349287, [48, 219, 267]), (35, -6576437802832959761, [36, 225, 261]), (18, -4471899111504217360, [19, 137, 156]), (55, -779998392378291470, [56, 215, 271]), (6, 3596531043858025208, [7, 143, 150]), (43, 7288431762983951098, [44, 221, 265]), (50, -305071168155976959, [51, 120, 171]), (48, -3556725003788462334, [49, 121, 170]), (89, 7765232265864471302, [90, 198, 288]), (40, -1906624988624395508, [41, 126, 167]), (23, 6733169562599059727, [24, 231, 255]), (94, 2633886972903460121, [95, 98, 193]), (92, 3658284982194145056, [93, 99, 192]), (21, 9073021662716778785, [22, 232, 254]), (28, 7004624993823255852, [29, 132, 161]), (38, 1276046938578732342, [39, 127, 166]), (36, 2422750485930615095, [37, 128, 165]), (66, -6421033685007114441, [67, 112, 179]), (75, 4967947657704658232, [76, 205, 281]), (26, -9102266979768576706, [27, 133, 160]), (63, -5410366260642650816, [64, 211, 275]), (9, 3935884954439246657, [10, 238, 248]), (88, 7987660456749155659, [89, 101, 190]), (17, -5044346936437762228, [18, 234, 252]), (37, 2957059145865641303, [38, 224, 262]), (14, 4207340385663442782, [15, 139, 154]), (62, -6490015593436471966, [63, 114, 177]), (83, 7832217031730529635, [84, 201, 285]), (22, -4772891505213566103, [23, 135, 158]), (91, -1148014859146479250, [92, 197, 289]), (54, -606063561865325702, [55, 118, 173]), (96, -6368767767377261176, [97, 146, 243]), (57, -5343381494776592483, [58, 214, 272]), (77, -3945299467306292320, [78, 204, 282]), (82, 3656287839630845864, [83, 104, 187]), (11, 9071024520153479593, [12, 237, 249]), (42, 5373411927853751727, [43, 125, 168]), (70, -6722026078716463184, [71, 110, 181]), (29, -2554882133810718797, [30, 228, 258]), (45, 3567868487671058877, [46, 220, 266]), (65, 4965950515141359040, [66, 210, 276]), (24, 3445151352658000838, [25, 134, 159]), (34, -2283426702586522672, [35, 129, 164]), (58, 6587581286715556304, [59, 116, 175]), (80, 6838959766833973714, [81, 105, 186]), (68, 859003231471032794, [69, 111, 180]), (87, 7531224638021180892, [88, 199, 287]), (41, 7897243962226069480, [42, 222, 264]), (2, 5229741252390828525, [3, 145, 148]), (31, 770583879511245807, [32, 227, 259]), (51, 2168665906981545970, [52, 217, 269]), (90, 3424277354350854646, [91, 100, 191]), (10, -3750490638486180360, [11, 141, 152]), (56, -8676490859790867462, [57, 117, 174])]⟩
def st97_10 : Rws Nat := ⟨⟨511, #[6, 14, 17, 22, 33, 34, 46, 56, 62, 64, 65, 72, 75, 76, 77, 79, 115, 126, 127, 129, 144, 158, 159, 160, 161, 169, 176, 187, 189, 190, 192, 198, 199, 201, 202, 210, 211, 212, 215, 217, 218, 219, 230, 231, 239, 240, 242, 248, 250, 257, 258, 262, 268, 271, 281, 288, 289, 300, 310, 311, 312, 313, 318, 320, 321, 331, 332, 343, 350, 354, 355, 361, 366, 378, 392, 413, 416, 424, 425, 431, 432, 435, 445, 448, 454, 464, 465, 466, 474, 476, 488, 493, 495, 498, 502, 504, 506], #[], 0, true, 3, true⟩, [(85, -3334490125500874746, [86, 200, 286]), (73, 4733940029861367822, [74, 206, 280]), (93, 6132022057331667985, [94, 196, 290]), (78, -6111216736911045610, [79, 106, 185]), (25, 6124357363356941345, [26, 230, 256]), (86, 3355295445921497121, [87, 102, 189]), (61, -403196678416164306, [62, 212, 274]), (71, -6131774733660687816, [72, 207, 279]), (30, 6395812794581137470, [31, 131, 162]), (76, 1469812573276450368, [77, 107, 184]), (74, -1781841262356035007, [75, 108, 183]), (64, -8908501345070858680, [65, 113, 178]), (84, -7510419317600558517, [85, 103, 188]), (33, 4590269354398444620, [34, 226, 260]), (16, 6694808045727187021, [17, 138, 155]), (53, 5988351381868744783, [54, 216, 270]), (60, -4579125870515848077, [61, 115, 176]), (19, 1792984746238631550, [20, 233, 253]), (0, 4540663771929083519, [1, 122, 123]), (39, 3191066773708931713, [40, 223, 263]), (4, -5936965904840575856, [5, 144, 149]), (7, -3344151962038900578, [8, 239, 247]), (44, 3462522204933127838, [45, 124, 169]), (81, 7154422924059053728, [82, 202, 284]), (27, -1946069934568600415, [28, 229, 257]), (15, 6122360220793642153, [16, 235, 251]), (5, -1004299861921181520, [6, 240, 246]), (12, -3072696530814704453, [13, 140, 153]), (49, 619204188311221437, [50, 218, 268]), (32, -1674614503344404290, [33, 130, 163]), (69, 2017286215781521600, [70, 208, 278]), (20, 6393815652017838278, [21, 136, 157]), (59, -5109373866933302073, [60, 213, 273]), (3, -3413133870468258103, [4, 241, 245]), (79, -3711291839463001910, [80, 203, 283]), (67, 4357138315899240658, [68, 209, 277]), (13, -4743354542728413485, [14, 236, 250]), (95, 6809816165003143892, [96, 195, 291]), (52, -7886100478343472937, [53, 119, 172]), (46, 4964279221335332569, [47, 147, 194]), (72, -6488018450873172774, [73, 109, 182]), (1, 3325075612633829083, [2, 242, 244]), (8, 1256678943740306150, [9, 142, 151]), (47, 3801876115514349287, [48, 219, 267]), (35, -6576437802832959761, [36, 225, 261]), (18, -4471899111504217360, [19, 137, 156]), (55, -779998392378291470, [56, 215, 271]), (6, 3596531043858025208, [7, 143, 150]), (43, 7288431762983951098, [44, 221, 265]), (50, -305071168155976959, [51, 120, 171]), (48, -3556725003788462334, [49, 121, 170]), (89, 7765232265864471302, [90, 198, 288]), (40, -1906624988624395508, [41, 126, 167]), (23, 6733169562599059727, [24, 231, 255]), (94, 2633886972903460121, [95, 98, 193]), (92, 3658284982194145056, [93, 99, 192]), (21, 9073021662716778785, [22, 232, 254]), (28, 7004624993823255852, [29, 132, 161]), (38, 1276046938578732342, [39, 127, 166]), (36, 2422750485930615095, [37, 128, 165]), (66, -6421033685007114441, [67, 112, 179]), (75, 4967947657704658232, [76, 205, 281]), (26, -9102266979768576706, [27, 133, 160]), (63, -5410366260642650816, [64, 211, 275]), (9, 3935884954439246657, [10, 238, 248]), (88, 7987660456749155659, [89, 101, 190]), (17, -5044346936437762228, [18, 234, 252]), (37, 2957059145865641303, [38, 224, 262]), (14, 4207340385663442782, [15, 139, 154]), (62, -6490015593436471966, [63, 114, 177]), (83, 7832217031730529635, [84, 201, 285]), (22, -4772891505213566103, [23, 135, 158]), (91, -1148014859146479250, [92, 197, 289]), (54, -606063561865325702, [55, 118, 173]), (96, -6368767767377261176, [97, 146, 243]), (57, -5343381494776592483, [58, 214, 272]), (77, -3945299467306292320, [78, 204, 282]), (82, 3656287839630845864, [83, 104, 187]), (11, 9071024520153479593, [12, 237, 249]), (42, 5373411927853751727, [43, 125, 168]), (70, -6722026078716463184, [71, 110, 181]), (29, -2554882133810718797, [30, 228, 258]), (45, 3567868487671058877, [46, 220, 266]), (65, 4965950515141359040, [66, 210, 276]), (24, 3445151352658000838, [25, 134, 159]), (34, -2283426702586522672, [35, 129, 164]), (58, 6587581286715556304, [59, 116, 175]), (80, 6838959766833973714, [81, 105, 186]), (68, 859003231471032794, [69, 111, 180]), (87, 7531224638021180892, [88, 199, 287]), (41, 7897243962226069480, [42, 222, 264]), (2, 5229741252390828525, [3, 145, 148]), (31, 770583879511245807, [32, 227, 259]), (51, 2168665906981545970, [52, 217, 269]), (90, 3424277354350854646, [91, 100, 191]), (10, -3750490638486180360, [11, 141, 152]), (56, -8676490859790867462, [57, 117, 174])]⟩
def st97_11 : Rws Nat := ⟨⟨511, #[6, 14, 17, 22, 33, 34, 46, 56, 62, 64, 65, 72, 75, 76, 77, 79, 115, 126, 127, 129, 144, 158, 159, 160, 161, 169, 176, 187, 189, 190, 192, 198, 199, 201, 202, 210, 211, 212, 215, 217, 218, 219, 230, 231, 239, 240, 242, 248, 250, 257, 258, 262, 268, 271, 281, 288, 289, 300, 310, 311, 312, 313, 318, 320, 321, 331, 332, 343, 350, 354, 355, 361, 366, 378, 392, 413, 416, 424, 425, 431, 432, 435, 445, 448, 454, 464, 465, 466, 474, 476, 488, 493, 495, 498, 502, 504, 506], #[], 0, true, 3, true⟩, [(85, -3334490125500874746, [86, 200, 286]), (73, 4733940029861367822, [74, 206, 280]), (93, 6132022057331667985, [94, 196, 290]), (78, -6111216736911045610, [79, 106, 185]), (25, 6124357363356941345, [26, 230, 256]), (86, 3355295445921497121, [87, 102, 189]), (61, -403196678416164306, [62, 212, 274]), (71, -6131774733660687816, [72, 207, 279]), (30, 6395812794581137470, [31, 131, 162]), (76, 1469812573276450368, [77, 107, 184]), (74, -1781841262356035007, [75, 108, 183]), (64, -8908501345070858680, [65, 113, 178]), (84, -7510419317600558517, [85, 103, 188]), (33, 4590269354398444620, [34, 226, 260]), (16, 6694808045727187021, [17, 138, 155]), (53, 5988351381868744783, [54, 216, 270]), (60, -4579125870515848077, [61, 115, 176]), (19, 1792984746238631550, [20, 233, 253]), (0, 4540663771929083519, [1, 122, 123]), (39, 3191066773708931713, [40, 223, 263]), (4, -5936965904840575856, [5, 144, 149]), (7, -3344151962038900578, [8, 239, 247]), (44, 3462522204933127838, [45, 124, 169]), (81, 7154422924059053728, [82, 202, 284]), (27, -1946069934568600415, [28, 229, 257]), (15, 6122360220793642153, [16, 235, 251]), (5, -1004299861921181520, [6, 240, 246]), (12, -3072696530814704453, [13, 140, 153]), (49, 619204188311221437, [50, 218, 268]), (32, -1674614503344404290, [33, 130, 163]), (69, 2017286215781521600, [70, 208, 278]), (20, 6393815652017838278, [21, 136, 157]), (59, -5109373866933302073, [60, 213, 273]), (3, -3413133870468258103, [4, 241, 245]), (79, -3711291839463001910, [80, 203, 283]), (67, 4357138315899240658, [68, 209, 277]), (13, -4743354542728413485, [14, 236, 250]), (95, 6809816165003143892, [96, 195, 291]), (52, -7886100478343472937, [53, 119, 172]), (46, 4964279221335332569, [47, 147, 194]), (72, -6488018450873172774, [73, 109, 182]), (1, 3325075612633829083, [2, 242, 244]), (8, 1256678943740306150, [9, 142, 151]), (47, 3801876115514349287, [48, 219, 267]), (35, -6576437802832959761, [36, 225, 261]), (18, -4471899111504217360, [19, 137, 156]), (55, -779998392378291470, [56, 215, 271]), (6, 3596531043858025208, [7, 143, 150]), (43, 7288431762983951098, [44, 221, 265]), (50, -305071168155976959, [51, 120, 171]), (48, -3556725003788462334, [49, 121, 170]), (89, 7765232265864471302, [90, 198, 288]), (40, -1906624988624395508, [41, 126, 167]), (23, 6733169562599059727, [24, 231, 255]), (94, 2633886972903460121, [95, 98, 193]), (92, 3658284982194145056, [93, 99, 192]), (21, 9073021662716778785, [22, 232, 254]), (28, 7004624993823255852, [29, 132, 161]), (38, 1276046938578732342, [39, 127, 166]), (36, 2422750485930615095, [37, 128, 165]), (66, -6421033685007114441, [67, 112, 179]), (75, 4967947657704658232, [76, 205, 281]), (26, -9102266979768576706, [27, 133, 160]), (63, -5410366260642650816, [64, 211, 275]), (9, 3935884954439246657, [10, 238, 248]), (88, 7987660456749155659, [89, 101, 190]), (17, -5044346936437762228, [18, 234, 252]), (37, 2957059145865641303, [38, 224, 262]), (14, 4207340385663442782, [15, 139, 154]), (62, -6490015593436471966, [63, 114, 177]), (83, 7832217031730529635, [84, 201, 285]), (22, -4772891505213566103, [23, 135, 158]), (91, -1148014859146479250, [92, 197, 289]), (54, -606063561865325702, [55, 118, 173]), (96, -6368767767377261176, [97, 146, 243]), (57, -5343381494776592483, [58, 214, 272]), (77, -3945299467306292320, [78, 204, 282]), (82, 3656287839630845864, [83, 104, 187]), (11, 9071024520153479593, [12, 237, 249]), (42, 5373411927853751727, [43, 125, 168]), (70, -6722026078716463184, [71, 110, 181]), (29, -2554882133810718797, [30, 228, 258]), (45, 3567868487671058877, [46, 220, 266]), (65, 4965950515141359040, [66, 210, 276]), (24, 3445151352658000838, [25, 134, 159]), (34, -2283426702586522672, [35, 129, 164]), (58, 6587581286715556304, [59, 116, 175]), (80, 6838959766833973714, [81, 105, 186]), (68, 859003231471032794, [69, 111, 180]), (87, 7531224638021180892, [88, 199, 287]), (41, 7897243962226069480, [42, 222, 264]), (2, 5229741252390828525, [3, 145, 148]), (31, 770583879511245807, [32, 227, 259]), (51, 2168665906981545970, [52, 217, 269]), (90, 3424277354350854646, [91, 100, 191]), (10, -3750490638486180360, [11, 141, 152]), (56, -8676490859790867462, [57, 117, 174])]⟩
def st97_12 : Rws Nat := ⟨⟨511, #[6, 14, 17, 22, 33, 34, 46, 56, 62, 64, 65, 72, 75, 76, 77, 79, 115, 126, 127, 129, 144, 158, 159, 160, 161, 169, 176, 187, 189, 190, 192, 198, 199, 201, 202, 210, 211, 212, 215, 217, 218, 219, 230, 231, 239, 240, 242, 248, 250, 257, 258, 262, 268, 271, 281, 288, 289, 300, 310, 311, 312, 313, 318, 320, 321, 331, 332, 343, 350, 354, 355, 361, 366, 378, 392, 413, 416, 424, 425, 431, 432, 435, 445, 448, 454, 464, 465, 466, 474, 476, 488, 493, 495, 498, 502, 504, 506], #[], 0, true, 3, true⟩, [(85, -3334490125500874746, [86, 200, 286]), (73, 4733940029861367822, [74, 206, 280]), (93, 6132022057331667985, [94, 196, 290]), (78, -6111216736911045610, [79, 106, 185]), (25, 6124357363356941345, [26, 230, 256]), (86, 3355295445921497121, [87, 102, 189]), (61, -403196678416164306, [62, 212, 274]), (71, -6131774733660687816, [72, 207, 279]), (30, 6395812794581137470, [31, 131, 162]), (76, 1469812573276450368, [77, 107, 184]), (74, -1781841262356035007, [75, 108, 183]), (64, -8908501345070858680, [65, 113, 178]), (84, -7510419317600558517, [85, 103, 188]), (33, 4590269354398444620, [34, 226, 260]), (16, 6694808045727187021, [17, 138, 155]), (53, 5988351381868744783, [54, 216, 270]), (60, -4579125870515848077, [61, 115, 176]), (19, 1792984746238631550, [20, 233, 253]), (0, 4540663771929083519, [1, 122, 123]), (39, 3191066773708931713, [40, 223, 263]), (4, -5936965904840575856, [5, 144, 149]), (7, -3344151962038900578, [8, 239, 247]), (44, 3462522204933127838, [45, 124, 169]), (81, 7154422924059053728, [82, 202, 284]), (27, -1946069934568600415, [28, 229, 257]), (15, 6122360220793642153, [16, 235, 251]), (5, -1004299861921181520, [6, 240, 246]), (12, -3072696530814704453, [13, 140, 153]), (49, 619204188311221437, [50, 218, 268]), (32, -1674614503344404290, [33, 130, 163]), (69, 2017286215781521600, [70, 208, 278]), (20, 6393815652017838278, [21, 136, 157]), (59, -5109373866933302073, [60, 213, 273]), (3, -3413133870468258103, [4, 241, 245]), (79, -3711291839463001910, [80, 203, 283]), (67, 4357138315899240658, [68, 209, 277]), (13, -4743354542728413485, [14, 236, 250]), (95, 6809816165003143892, [96, 195, 291]), (52, -7886100478343472937, [53, 119, 172]), (46, 4964279221335332569, [47, 147, 194]), (72, -6488018450873172774, [73, 109, 182]), (1, 3325075612633829083, [2, 242, 244]), (8, 1256678943740306150, [9, 142, 151]), (47, 3801876115514349287, [48, 219, 267]), (35, -6576437802832959761, [36, 225, 261]), (18, -4471899111504217360, [19, 137, 156]), (55, -779998392378291470, [56, 215, 271]), (6, 3596531043858025208, [7, 143, 150]), (43, 7288431762983951098, [44, 221, 265]), (50, -305071168155976959, [51, 120, 171]), (48, -3556725003788462334, [49, 121, 170]), (89, 7765232265864471302, [90, 198, 288]), (40, -1906624988624395508, [41, 126, 167]), (23, 6733169562599059727, [24, 231, 255]), (94, 2633886972903460121, [95, 98, 193]), (92, 3658284982194145056, [93, 99, 192]), (21, 9073021662716778785, [22, 232, 254]), (28, 7004624993823255852, [29, 132, 161]), (38, 1276046938578732342, [39, 127, 166]), (36, 2422750485930615095, [37, 128, 165]), (66, -6421033685007114441, [67, 112, 179]), (75, 4967947657704658232, [76, 205, 281]), (26, -9102266979768576706, [27, 133, 160]), (63, -5410366260642650816, [64, 211, 275]), (9, 3935884954439246657, [10, 238, 248]), (88, 7987660456749155659, [89, 101, 190]), (17, -5044346936437762228, [18, 234, 252]), (37, 2957059145865641303, [38, 224, 262]), (14, 4207340385663442782, [15, 139, 154]), (62, -6490015593436471966, [63, 114, 177]), (83, 7832217031730529635, [84, 201, 285]), (22, -4772891505213566103, [23, 135, 158]), (91, -1148014859146479250, [92, 197, 289]), (54, -606063561865325702, [55, 118, 173]), (96, -6368767767377261176, [97, 146, 243]), (57, -5343381494776592483, [58, 214, 272]), (77, -3945299467306292320, [78, 204, 282]), (82, 3656287839630845864, [83, 104, 187]), (11, 9071024520153479593, [12, 237, 249]), (42, 5373411927853751727, [43, 125, 168]), (70, -6722026078716463184, [71, 110, 181]), (29, -2554882133810718797, [30, 228, 258]), (45, 3567868487671058877, [46, 220, 266]), (65, 4965950515141359040, [66, 210, 276]), (24, 3445151352658000838, [25, 134, 159]), (34, -2283426702586522672, [35, 129, 164]), (58, 6587581286715556304, [59, 116, 175]), (80, 6838959766833973714, [81, 105, 186]), (68, 859003231471032794, [69, 111, 180]), (87, 7531224638021180892, [88, 199, 287]), (41, 7897243962226069480, [42, 222, 264]), (2, 5229741252390828525, [3, 145, 148]), (31, 770583879511245807, [32, 227, 259]), (51, 2168665906981545970, [52, 217, 269]), (90, 3424277354350854646, [91, 100, 191]), (10, -3750490638486180360, [11, 141, 152]), (56, -8676490859790867462, [57, 117, 174])]⟩
def st97_13 : Rws Nat := ⟨⟨511, #[6, 14, 17, 22, 33, 34, 46, 56, 62, 64, 65, 72, 75, 76, 77, 79, 115, 126, 127, 129, 144, 158, 159, 160, 161, 169, 176, 187, 189, 190, 192, 198, 199, 201, 202, 210, 211, 212, 215, 217, 218, 219, 230, 231, 239, 240, 242, 248, 250, 257, 258, 262, 268, 271, 281, 288, 289, 300, 310, 311, 312, 313, 318, 320, 321, 331, 332, 343, 350, 354, 355, 361, 366, 378, 392, 413, 416, 424, 425, 431, 432, 435, 445, 448, 454, 464, 465, 466, 474, 476, 488, 493, 495, 498, 502, 504, 506], #[], 0, true, 3, true⟩, [(85, -3334490125500874746, [86, 200, 286]), (73, 4733940029861367822, [74, 206, 280]), (93, 6132022057331667985, [94, 196, 290]), (78, -6111216736911045610, [79, 106, 185]), (25, 6124357363356941345, [26, 230, 256]), (86, 3355295445921497121, [87, 102, 189]), (61, -403196678416164306, [62, 212, 274]), (71, -6131774733660687816, [72, 207, 279]), (30, 6395812794581137470, [31, 131, 162]), (76, 1469812573276450368, [77, 107, 184]), (74, -1781841262356035007, [75, 108, 183]), (64, -8908501345070858680, [65, 113, 178]), (84, -7510419317600558517, [85, 103, 188]), (33, 4590269354398444620, [34, 226, 260]), (16, 6694808045727187021, [17, 138, 155]), (53, 5988351381868744783, [54, 216, 270]), (60, -4579125870515848077, [61, 115, 176]), (19, 1792984746238631550, [20, 233, 253]), (0, 4540663771929083519, [1, 122, 123]), (39, 3191066773708931713, [40, 223, 263]), (4, -5936965904840575856, [5, 144, 149]), (7, -3344151962038900578, [8, 239, 247]), (44, 3462522204933127838, [45, 124, 169]), (81, 7154422924059053728, [82, 202, 284]), (27, -1946069934568600415, [28, 229, 257]), (15, 6122360220793642153, [16, 235, 251]), (5, -1004299861921181520, [6, 240, 246]), (12, -3072696530814704453, [13, 140, 153]), (49, 619204188311221437, [50, 218, 268]), (32, -1674614503344404290, [33, 130, 163]), (69, 2017286215781521600, [70, 208, 278]), (20, 6393815652017838278, [21, 136, 157]), (59, -5109373866933302073, [60, 213, 273]), (3, -3413133870468258103, [4, 241, 245]), (79, -3711291839463001910, [80, 203, 283]), (67, 4357138315899240658, [68, 209, 277]), (13, -4743354542728413485, [14, 236, 250]), (95, 6809816165003143892, [96, 195, 291]), (52, -7886100478343472937, [53, 119, 172]), (46, 4964279221335332569, [47, 147, 194]), (72, -6488018450873172774, [73, 109, 182]), (1, 3325075612633829083, [2, 242, 244]), (8, 1256678943740306150, [9, 142, 151]), (47, 3801876115514349287, [48, 219, 267]), (35, -6576437802832959761, [36, 225, 261]), (18, -4471899111504217360, [19, 137, 156]), (55, -779998392378291470, [56, 215, 271]), (6, 3596531043858025208, [7, 143, 150]), (43, 7288431762983951098, [44, 221, 265]), (50, -305071168155976959, [51, 120, 171]), (48, -3556725003788462334, [49, 121, 170]), (89, 7765232265864471302, [90, 198, 288]), (40, -1906624988624395508, [41, 126, 167]), (23, 6733169562599059727, [24, 231, 255]), (94, 2633886972903460121, [95, 98, 193]), (92, 3658284982194145056, [93, 99, 192]), (21, 9073021662716778785, [22, 232, 254]), (28, 7004624993823255852, [29, 132, 161]), (38, 1276046938578732342, [39, 127, 166]), (36, 2422750485930615095, [37, 128, 165]), (66, -6421033685007114441, [67, 112, 179]), (75, 4967947657704658232, [76, 205, 281]), (26, -9102266979768576706, [27, 133, 160]), (63, -5410366260642650816, [64, 211, 275]), (9, 3935884954439246657, [10, 238, 248]), (88, 7987660456749155659, [89, 101, 190]), (17, -5044346936437762228, [18, 234, 252]), (37, 2957059145865641303, [38, 224, 262]), (14, 4207340385663442782, [15, 139, 154]), (62, -6490015593436471966, [63, 114, 177]), (83, 7832217031730529635, [84, 201, 285]), (22, -4772891505213566103, [23, 135, 158]), (91, -1148014859146479250, [92, 197, 289]), (54, -606063561865325702, [55, 118, 173]), (96, -6368767767377261176, [97, 146, 243]), (57, -5343381494776592483, [58, 214, 272]), (77, -3945299467306292320, [78, 204, 282]), (82, 3656287839630845864, [83, 104, 187]), (11, 9071024520153479593, [12, 237, 249]), (42, 5373411927853751727, [43, 125, 168]), (70, -6722026078716463184, [71, 110, 181]), (29, -2554882133810718797, [30, 228, 258]), (45, 3567868487671058877, [46, 220, 266]), (65, 4965950515141359040, [66, 210, 276]), (24, 3445151352658000838, [25, 134, 159]), (34, -2283426702586522672, [35, 129, 164]), (58, 6587581286715556304, [59, 116, 175]), (80, 6838959766833973714, [81, 105, 186]), (68, 859003231471032794, [69, 111, 180]), (87, 7531224638021180892, [88, 199, 287]), (41, 7897243962226069480, [42, 222, 264]), (2, 5229741252390828525, [3, 145, 148]), (31, 770583879511245807, [32, 227, 259]), (51, 2168665906981545970, [52, 217, 269]), (90, 3424277354350854646, [91, 100, 191]), (10, -3750490638486180360, [11, 141, 152]), (56, -8676490859790867462, [57, 117, 174])]⟩
def st97_14 : Rws Nat := ⟨⟨511, #[6, 14, 17, 22, 33, 34, 46, 56, 62, 64, 65, 72, 75, 76, 77, 79, 115, 126, 127, 129, 144, 158, 159, 160, 161, 169, 176, 187, 189, 190, 192, 198, 199, 201, 202, 210, 211, 212, 215, 217, 218, 219, 230, 231, 239, 240, 242, 248, 250, 257, 258, 262, 268, 271, 281, 288, 289, 300, 310, 311, 312, 313, 318, 320, 321, 331, 332, 343, 350, 354, 355, 361, 366, 378, 392, 413, 416, 424, 425, 431, 432, 435, 445, 448, 454, 464, 465, 466, 474, 476, 488, 493, 495, 498, 502, 504, 506], #[], 0, true, 3, true⟩, [(85, -3334490125500874746, [86, 200, 286]), (73, 4733940029861367822, [74, 206, 280]), (93, 6132022057331667985, [94, 196, 290]), (78, -6111216736911045610, [79, 106, 185]), (25, 6124357363356941345, [26, 230, 256]), (86, 3355295445921497121, [87, 102, 189]), (61, -403196678416164306, [62, 212, 274]), (71, -6131774733660687816, [72, 207, 279]), (30, 6395812794581137470, [31, 131, 162]), (76, 1469812573276450368, [77, 107, 184]), (74, -1781841262356035007, [75, 108, 183]), (64, -8908501345070858680, [65, 113, 178]), (84, -7510419317600558517, [85, 103, 188]), (33, 4590269354398444620, [34, 226, 260]), (16, 6694808045727187021, [17, 138, 155]), (53, 5988351381868744783, [54, 216, 270]), (60, -4579125870515848077, [61, 115, 176]), (19, 1792984746238631550, [20, 233, 253]), (0, 4540663771929083519, [1, 122, 123]), (39, 3191066773708931713, [40, 223, 263]), (4, -5936965904840575856, [5, 144, 149]), (7, -3344151962038900578, [8, 239, 247]), (44, 3462522204933127838, [45, 124, 169]), (81, 7154422924059053728, [82, 202, 284]), (27, -1946069934568600415, [28, 229, 257]), (15, 6122360220793642153, [16, 235, 251]), (5, -1004299861921181520, [6, 240, 246]), (12, -3072696530814704453, [13, 140, 153]), (49, 619204188311221437, [50, 218, 268]), (32, -1674614503344404290, [33, 130, 163]), (69, 2017286215781521600, [70, 208, 278]), (20, 6393815652017838278, [21, 136, 157]), (59, -5109373866933302073, [60, 213, 273]), (3, -3413133870468258103, [4, 241, 245]), (79, -3711291839463001910, [80, 203, 283]), (67, 4357138315899240658, [68, 209, 277]), (13, -4743354542728413485, [14, 236, 250]), (95, 6809816165003143892, [96, 195, 291]), (52, -7886100478343472937, [53, 119, 172]), (46, 4964279221335332569, [47, 147, 194]), (72, -6488018450873172774, [73, 109, 182]), (1, 3325075612633829083, [2, 242, 244]), (8, 1256678943740306150, [9, 142, 151]), (47, 3801876115514349287, [48, 219, 267]), (35, -6576437802832959761, [36, 225, 261]), (18, -4471899111504217360, [19, 137, 156]), (55, -779998392378291470, [56, 215, 271]), (6, 3596531043858025208, [7, 143, 150]), (43, 7288431762983951098, [44, 221, 265]), (50, -305071168155976959, [51, 120, 171]), (48, -3556725003788462334, [49, 121, 170]), (89, 7765232265864471302, [90, 198, 288]), (40, -1906624988624395508, [41, 126, 167]), (23, 6733169562599059727, [24, 231, 255]), (94, 2633886972903460121, [95, 98, 193]), (92, 3658284982194145056, [93, 99, 192]), (21, 9073021662716778785, [22, 232, 254]), (28, 7004624993823255852, [29, 132, 161]), (38, 1276046938578732342, [39, 127, 166]), (36, 2422750485930615095, [37, 128, 165]), (66, -6421033685007114441, [67, 112, 179]), (75, 4967947657704658232, [76, 205, 281]), (26, -9102266979768576706, [27, 133, 160]), (63, -5410366260642650816, [64, 211, 275]), (9, 3935884954439246657, [10, 238, 248]), (88, 7987660456749155659, [89, 101, 190]), (17, -5044346936437762228, [18, 234, 252]), (37, 2957059145865641303, [38, 224, 262]), (14, 4207340385663442782, [15, 139, 154]), (62, -6490015593436471966, [63, 114, 177]), (83, 7832217031730529635, [84, 201, 285]), (22, -4772891505213566103, [23, 135, 158]), (91, -1148014859146479250, [92, 197, 289]), (54, -606063561865325702, [55, 118, 173]), (96, -6368767767377261176, [97, 146, 243]), (57, -5343381494776592483, [58, 214, 272]), (77, -3945299467306292320, [78, 204, 282]), (82, 3656287839630845864, [83, 104, 187]), (11, 9071024520153479593, [12, 237, 249]), (42, 5373411927853751727, [43, 125, 168]), (70, -6722026078716463184, [71, 110, 181]), (29, -2554882133810718797, [30, 228, 258]), (45, 3567868487671058877, [46, 220, 266]), (65, 4965950515141359040, [66, 210, 276]), (24, 3445151352658000838, [25, 134, 159]), (34, -2283426702586522672, [35, 129, 164]), (58, 6587581286715556304, [59, 116, 175]), (80, 6838959766833973714, [81, 105, 186]), (68, 859003231471032794, [69, 111, 180]), (87, 7531224638021180892, [88, 199, 287]), (41, 7897243962226069480, [42, 222, 264]), (2, 5229741252390828525, [3, 145, 148]), (31, 770583879511245807, [32, 227, 259]), (51, 2168665906981545970, [52, 217, 269]), (90, 3424277354350854646, [91, 100, 191]), (10, -3750490638486180360, [11, 141, 152]), (56, -8676490859790867462, [57, 117, 174])]⟩
def st97_15 : Rws Nat := ⟨⟨511, #[6, 14, 17, 22, 33, 34, 46, 56, 62, 64, 65, 72, 75, 76, 77, 79, 115, 126, 127, 129, 144, 158, 159, 160, 161, 169, 176, 187, 189, 190, 192, 198, 199, 201, 202, 210, 211, 212, 215, 217, 218, 219, 230, 231, 239, 240, 242, 248, 250, 257, 258, 262, 268, 271, 281, 288, 289, 300, 310, 311, 312, 313, 318, 320, 321, 331, 332, 343, 350, 354, 355, 361, 366, 378, 392, 413, 416, 424, 425, 431, 432, 435, 445, 448, 454, 464, 465, 466, 474, 476, 488, 493, 495, 498, 502, 504, 506], #[], 0, true, 3, true⟩, [(85, -3334490125500874746, [86, 200, 286]), (73, 4733940029861367822, [74, 206, 280]), (93, 6132022057331667985, [94, 196, 290]), (78, -6111216736911045610, [79, 106, 185]), (25, 6124357363356941345, [26, 230, 256]), (86, 3355295445921497121, [87, 102, 189]), (61, -403196678416164306, [62, 212, 274]), (71, -6131774733660687816, [72, 207, 279]), (30, 6395812794581137470, [31, 131, 162]), (76, 1469812573276450368, [77, 107, 184]), (74, -1781841262356035007, [75, 108, 183]), (64, -8908501345070858680, [65, 113, 178]), (84, -7510419317600558517, [85, 103, 188]), (33, 4590269354398444620, [34, 226, 260]), (16, 6694808045727187021, [17, 138, 155]), (53, 5988351381868744783, [54, 216, 270]), (60, -4579125870515848077, [61, 115, 176]), (19, 1792984746238631550, [20, 233, 253]), (0, 4540663771929083519, [1, 122, 123]), (39, 3191066773708931713, [40, 223, 263]), (4, -5936965904840575856, [5, 144, 149]), (7, -3344151962038900578, [8, 239, 247]), (44, 3462522204933127838, [45, 124, 169]), (81, 7154422924059053728, [82, 202, 284]), (27, -1946069934568600415, [28, 229, 257]), (15, 6122360220793642153, [16, 235, 251]), (5, -1004299861921181520, [6, 240, 246]), (12, -3072696530814704453, [13, 140, 153]), (49, 619204188311221437, [50, 218, 268]), (32, -1674614503344404290, [33, 130, 163]), (69, 2017286215781521600, [70, 208, 278]), (20, 6393815652017838278, [21, 136, 157]), (59, -5109373866933302073, [60, 213, 273]), (3, -3413133870468258103, [4, 241, 245]), (79, -3711291839463001910, [80, 203, 283]), (67, 4357138315899240658, [68, 209, 277]), (13, -4743354542728413485, [14, 236, 250]), (95, 6809816165003143892, [96, 195, 291]), (52, -7886100478343472937, [53, 119, 172]), (46, 4964279221335332569, [47, 147, 194]), (72, -6488018450873172774, [73, 109, 182]), (1, 3325075612633829083, [2, 242, 244]), (8, 1256678943740306150, [9, 142, 151]), (47, 3801876115514349287, [48, 219, 267]), (35, -6576437802832959761, [36, 225, 261]), (18, -4471899111504217360, [19, 137, 156]), (55, -779998392378291470, [56, 215, 271]), (6, 3596531043858025208, [7, 143, 150]), (43, 7288431762983951098, [44, 221, 265]), (50, -305071168155976959, [51, 120, 171]), (48, -3556725003788462334, [49, 121, 170]), (89, 7765232265864471302, [90, 198, 288]), (40, -1906624988624395508, [41, 126, 167]), (23, 6733169562599059727, [24, 231, 255]), (94, 2633886972903460121, [95, 98, 193]), (92, 3658284982194145056, [93, 99, 192]), (21, 9073021662716778785, [22, 232, 254]), (28, 7004624993823255852, [29, 132, 161]), (38, 1276046938578732342, [39, 127, 166]), (36, 2422750485930615095, [37, 128, 165]), (66, -6421033685007114441, [67, 112, 179]), (75, 4967947657704658232, [76, 205, 281]), (26, -9102266979768576706, [27, 133, 160]), (63, -5410366260642650816, [64, 211, 275]), (9, 3935884954439246657, [10, 238, 248]), (88, 7987660456749155659, [89, 101, 190]), (17, -5044346936437762228, [18, 234, 252]), (37, 2957059145865641303, [38, 224, 262]), (14, 4207340385663442782, [15, 139, 154]), (62, -6490015593436471966, [63, 114, 177]), (83, 7832217031730529635, [84, 201, 285]), (22, -4772891505213566103, [23, 135, 158]), (91, -1148014859146479250, [92, 197, 289]), (54, -606063561865325702, [55, 118, 173]), (96, -6368767767377261176, [97, 146, 243]), (57, -5343381494776592483, [58, 214, 272]), (77, -3945299467306292320, [78, 204, 282]), (82, 3656287839630845864, [83, 104, 187]), (11, 9071024520153479593, [12, 237, 249]), (42, 5373411927853751727, [43, 125, 168]), (70, -6722026078716463184, [71, 110, 181]), (29, -2554882133810718797, [30, 228, 258]), (45, 3567868487671058877, [46, 220, 266]), (65, 4965950515141359040, [66, 210, 276]), (24, 3445151352658000838, [25, 134, 159]), (34, -2283426702586522672, [35, 129, 164]), (58, 6587581286715556304, [59, 116, 175]), (80, 6838959766833973714, [81, 105, 186]), (68, 859003231471032794, [69, 111, 180]), (87, 7531224638021180892, [88, 199, 287]), (41, 7897243962226069480, [42, 222, 264]), (2, 5229741252390828525, [3, 145, 148]), (31, 770583879511245807, [32, 227, 259]), (51, 2168665906981545970, [52, 217, 269]), (90, 3424277354350854646, [91, 100, 191]), (10, -3750490638486180360, [11, 141, 152]), (56, -8676490859790867462, [57, 117, 174])]⟩
theorem fo97_0 : foldP st97_0 it97_0 = some st97_1 := by decide +kernel
theorem fo97_1 : foldP st97_1 it97_1 = some st97_2 := by decide +kernel
theorem fo97_2 : foldP st97_2 it97_2 = some st97_3 := by decide +kernel
theorem fo97_3 : foldP st97_3 it97_3 = some st97_4 := by decide +kernel
theorem fo97_4 : foldP st97_4 it97_4 = some st97_5 := by decide +kernel
theorem fo97_5 : foldP st97_5 it97_5 = some st97_6 := by decide +kernel
theorem fo97_6 : foldP st97_6 it97_6 = some st97_7 := by decide +kernel
theorem fo97_7 : foldP st97_7 it97_7 = some st97_8 := by decide +kernel
theorem fo97_8 : foldP st97_8 it97_8 = some st97_9 := by decide +kernel
theorem fo97_9 : foldP st97_9 it97_9 = some st97_10 := by decide +kernel
theorem fo97_10 : foldP st97_10 it97_10 = some st97_11 := by decide +kernel
theorem fo97_11 : foldP st97_11 it97_11 = some st97_12 := by decide +kernel
theorem fo97_12 : foldP st97_12 it97_12 = some st97_13 := by decide +kernel
theorem fo97_13 : foldP st97_13 it97_13 = some st97_14 := by decide +kernel
theorem fo97_14 : foldP st97_14 it97_14 = some st97_15 := by decide +kernel
theorem items97 : itemsOf 97 = it97_0 ++ (it97_1 ++ (it97_2 ++ (it97_3 ++ (it97_4 ++ (it97_5 ++ (it97_6 ++ (it97_7 ++ (it97_8 ++ (it97_9 ++ (it97_10 ++ (it97_11 ++ (it97_12 ++ (it97_13 ++ (it97_14)))))))))))))) := by decide +kernel
theorem fold97 : FoldOk 97 := ⟨st97_15, by rw [items97]; exact foldP_app _ _ _ _ _ fo97_0 (foldP_app _ _ _ _ _ fo97_1 (foldP_app _ _ _ _ _ fo97_2 (foldP_app _ _ _ _ _ fo97_3 (foldP_app _ _ _ _ _ fo97_4 (foldP_app _ _ _ _ _ fo97_5 (foldP_app _ _ _ _ _ fo97_6 (foldP_app _ _ _ _ _ fo97_7 (foldP_app _ _ _ _ _ fo97_8 (foldP_app _ _ _ _ _ fo97_9 (foldP_app _ _ _ _ _ fo97_10 (foldP_app _ _ _ _ _ fo97_11 (foldP_app _ _ _ _ _ fo97_12 (foldP_app _ _ _ _ _ fo97_13 (fo97_14)))))))))))))), by decide +kernel, by decide +kernel, by decide +kernel, by decide +kernel⟩
def it100_0 : List (Nat × Int × List Int) := [(0, 7570407243393040452, [1, 125, 126]), (1, 249578601283720985, [2, 249, 251]), (2, 6170530058211620319, [3, 149, 152]), (3, -2933093325919406865, [4, 248, 252]), (4, -4996177099019784062, [5, 148, 153]), (5, -4079796873271289618, [6, 247, 253]), (6, -2508709438956039823, [7, 147, 154]), (7, -6419648973389008676, [8, 246, 254]), (8, 8357005324566015815, [9, 146, 155]), (9, 5687707703270601856, [10, 245, 255]), (10, -2809701832665388566, [11, 145, 156]), (11, -8052859181921811993, [12, 244, 256]), (12, -2131907724993912659, [13, 144, 157]), (13, -7818851554078521583, [14, 243, 257]), (14, -2740719924236031041, [15, 143, 158]), (15, 3046863209443534055, [16, 242, 258]), (16, 7635596851547978815, [17, 142, 159]), (17, -3721486564803502198, [18, 241, 259]), (18, -3531110305683425566, [19, 141, 160]), (19, 3115845117872891580, [20, 240, 260])]
def it100_1 : List (Nat × Int × List Int) := [(20, 7334604457838630072, [21, 140, 161]), (21, -8050862039358512801, [22, 239, 261]), (22, 7568612085681920482, [23, 139, 162]), (23, 8484992311430414926, [24, 238, 262]), (24, 4385940158478792632, [25, 138, 163]), (25, -2681714845800989455, [26, 237, 263]), (26, 3239236611126909879, [27, 137, 164]), (27, 2024462342716148312, [28, 236, 264]), (28, 56564683923782029, [29, 136, 165]), (29, -5630379145160826895, [30, 235, 265]), (30, -5440002886040750263, [31, 135, 166]), (31, -2304913131838862291, [32, 234, 266]), (32, -733825697523612496, [33, 134, 167]), (33, 182554528224881948, [34, 233, 267]), (34, -1342637896765730878, [35, 133, 168]), (35, 7462591444703029183, [36, 232, 268]), (36, -3682489996883449936, [37, 132, 169]), (37, 4279919517499901333, [38, 231, 269]), (38, 2216835744399524136, [39, 131, 170]), (39, 4513927145343191743, [40, 230, 270])]
def it100_2 : List (Nat × Int × List Int) := [(40, -965836182803603714, [41, 130, 171]), (41, 9220104333860329510, [42, 229, 271]), (42, -731828554960313304, [43, 129, 172]), (43, 4212934751633843000, [44, 228, 272]), (44, 4403311010753919632, [45, 128, 173]), (45, 4890728859305318907, [46, 227, 273]), (46, 9035676021581578170, [47, 127, 174]), (47, -6275978297926085474, [48, 226, 274]), (48, -1675961283031371615, [49, 150, 199]), (49, -8186868020846709363, [50, 225, 275]), (50, 635717637664814835, [51, 124, 175]), (51, 3491526278615806000, [52, 224, 276]), (52, -6945311672522681143, [53, 123, 176]), (53, -4089503031571689978, [54, 223, 277]), (54, 6004864831222338181, [55, 122, 177]), (55, -3855495403728399568, [56, 222, 278]), (56, 2822192904019210331, [57, 121, 178]), (57, -8418878506126700581, [58, 221, 279]), (58, 7528370092536348098, [59, 120, 179]), (59, -8184870878283410171, [60, 220, 280])]
def it100_3 : List (Nat × Int × List Int) := [(60, -4524828778324995237, [61, 119, 180]), (61, -9209268887574095106, [62, 219, 281]), (62, -5549226787615680172, [63, 118, 181]), (63, 1582633698258481303, [64, 218, 282]), (64, 3433002245824627905, [65, 117, 182]), (65, 6288810886775619070, [66, 217, 283]), (66, -5480244879186322647, [67, 116, 183]), (67, 5679998687533500688, [68, 216, 284]), (68, 1799792037291824588, [69, 115, 184]), (69, -1058210795568586498, [70, 215, 285]), (70, 5619477512179023401, [71, 114, 185]), (71, -9207271745010795914, [72, 214, 286]), (72, -5547229645052380980, [73, 113, 186]), (73, -6719804084947051675, [74, 213, 287]), (74, -8729901572255508830, [75, 112, 187]), (75, 560232831531095560, [76, 212, 288]), (76, 8570138954102160033, [77, 111, 188]), (77, -7020796478656400418, [78, 211, 289]), (78, -5170427931090253816, [79, 110, 189]), (79, -6786788850813110008, [80, 210, 290])]
def it100_4 : List (Nat × Int × List Int) := [(80, -109100543065500109, [81, 109, 190]), (81, 8477283295693313758, [82, 209, 291]), (82, 4597076645451637658, [83, 108, 191]), (83, 4756720020380421537, [84, 208, 292]), (84, 3988264446209519276, [85, 107, 192]), (85, -6409987136850982844, [86, 207, 293]), (86, -2749945036892567910, [87, 106, 193]), (87, 3123509811847618220, [88, 206, 294]), (88, 8928449262569947453, [89, 105, 194]), (89, 3357517439690908630, [90, 205, 295]), (90, -2680963128463210385, [91, 104, 195]), (91, 174845512487780780, [92, 204, 296]), (92, 4599073788014936850, [93, 103, 196]), (93, 7454882428965928015, [94, 203, 297]), (94, -8712530719980381830, [95, 102, 197]), (95, 3734319153653035794, [96, 202, 298]), (96, -8478523092137091420, [97, 101, 198]), (97, 3125506954410917412, [98, 201, 299]), (98, -3981350739390520942, [99, 151, 250]), (99, -4944920343514624348, [100, 200, 300])]
def it100_5 : List (Nat × Int × List Int) := [(100, -8478523092137091420, [97, 101, 198]), (101, -8712530719980381830, [95, 102, 197]), (102, 4599073788014936850, [93, 103, 196]), (103, -2680963128463210385, [91, 104, 195]), (104, 8928449262569947453, [89, 105, 194]), (105, -2749945036892567910, [87, 106, 193]), (106, 3988264446209519276, [85, 107, 192]), (107, 4597076645451637658, [83, 108, 191]), (108, -109100543065500109, [81, 109, 190]), (109, -5170427931090253816, [79, 110, 189]), (110, 8570138954102160033, [77, 111, 188]), (111, -8729901572255508830, [75, 112, 187]), (112, -5547229645052380980, [73, 113, 186]), (113, 5619477512179023401, [71, 114, 185]), (114, 1799792037291824588, [69, 115, 184]), (115, -5480244879186322647, [67, 116, 183]), (116, 3433002245824627905, [65, 117, 182]), (117, -5549226787615680172, [63, 118, 181]), (118, -4524828778324995237, [61, 119, 180]), (119, 7528370092536348098, [59, 120, 179])]
def it100_6 : List (Nat × Int × List Int) := [(120, 2822192904019210331, [57, 121, 178]), (121, 6004864831222338181, [55, 122, 177]), (122, -6945311672522681143, [53, 123, 176]), (123, 635717637664814835, [51, 124, 175]), (124, 7570407243393040452, [1, 125, 126]), (125, 7570407243393040452, [1, 125, 126]), (126, 9035676021581578170, [47, 127, 174]), (127, 4403311010753919632, [45, 128, 173]), (128, -731828554960313304, [43, 129, 172]), (129, -965836182803603714, [41, 130, 171]), (130, 2216835744399524136, [39, 131, 170]), (131, -3682489996883449936, [37, 132, 169]), (132, -1342637896765730878, [35, 133, 168]), (133, -733825697523612496, [33, 134, 167]), (134, -5440002886040750263, [31, 135, 166]), (135, 56564683923782029, [29, 136, 165]), (136, 3239236611126909879, [27, 137, 164]), (137, 4385940158478792632, [25, 138, 163]), (138, 7568612085681920482, [23, 139, 162]), (139, 7334604457838630072, [21, 140, 161])]
def it100_7 : List (Nat × Int × List Int) := [(140, -3531110305683425566, [19, 141, 160]), (141, 7635596851547978815, [17, 142, 159]), (142, -2740719924236031041, [15, 143, 158]), (143, -2131907724993912659, [13, 144, 157]), (144, -2809701832665388566, [11, 145, 156]), (145, 8357005324566015815, [9, 146, 155]), (146, -2508709438956039823, [7, 147, 154]), (147, -4996177099019784062, [5, 148, 153]), (148, 6170530058211620319, [3, 149, 152]), (149, -1675961283031371615, [49, 150, 199]), (150, -3981350739390520942, [99, 151, 250]), (151, 6170530058211620319, [3, 149, 152]), (152, -4996177099019784062, [5, 148, 153]), (153, -2508709438956039823, [7, 147, 154]), (154, 8357005324566015815, [9, 146, 155]), (155, -2809701832665388566, [11, 145, 156]), (156, -2131907724993912659, [13, 144, 157]), (157, -2740719924236031041, [15, 143, 158]), (158, 7635596851547978815, [17, 142, 159]), (159, -3531110305683425566, [19, 141, 160])]
def it100_8 : List (Nat × Int × List Int) := [(160, 7334604457838630072, [21, 140, 161]), (161, 7568612085681920482, [23, 139, 162]), (162, 4385940158478792632, [25, 138, 163]), (163, 3239236611126909879, [27, 137, 164]), (164, 56564683923782029, [29, 136, 165]), (165, -5440002886040750263, [31, 135, 166]), (166, -733825697523612496, [33, 134, 167]), (167, -1342637896765730878, [35, 133, 168]), (168, -3682489996883449936, [37, 132, 169]), (169, 2216835744399524136, [39, 131, 170]), (170, -965836182803603714, [41, 130, 171]), (171, -731828554960313304, [43, 129, 172]), (172, 4403311010753919632, [45, 128, 173]), (173, 9035676021581578170, [47, 127, 174]), (174, 635717637664814835, [51, 124, 175]), (175, -6945311672522681143, [53, 123, 176]), (176, 6004864831222338181, [55, 122, 177]), (177, 2822192904019210331, [57, 121, 178]), (178, 7528370092536348098, [59, 120, 179]), (179, -4524828778324995237, [61, 119, 180])]
def it100_9 : List (Nat × Int × List Int) := [(180, -5549226787615680172, [63, 118, 181]), (181, 3433002245824627905, [65, 117, 182]), (182, -5480244879186322647, [67, 116, 183]), (183, 1799792037291824588, [69, 115, 184]), (184, 5619477512179023401, [71, 114, 185]), (185, -5547229645052380980, [73, 113, 186]), (186, -8729901572255508830, [75, 112, 187]), (187, 8570138954102160033, [77, 111, 188]), (188, -5170427931090253816, [79, 110, 189]), (189, -109100543065500109, [81, 109, 190]), (190, 4597076645451637658, [83, 108, 191]), (191, 3988264446209519276, [85, 107, 192]), (192, -2749945036892567910, [87, 106, 193]), (193, 8928449262569947453, [89, 105, 194]), (194, -2680963128463210385, [91, 104, 195]), (195, 4599073788014936850, [93, 103, 196]), (196, -8712530719980381830, [95, 102, 197]), (197, -8478523092137091420, [97, 101, 198]), (198, -1675961283031371615, [49, 150, 199]), (199, -4944920343514624348, [100, 200, 300])]
def it100_10 : List (Nat × Int × List Int) := [(200, 3125506954410917412, [98, 201, 299]), (201, 3734319153653035794, [96, 202, 298]), (202, 7454882428965928015, [94, 203, 297]), (203, 174845512487780780, [92, 204, 296]), (204, 3357517439690908630, [90, 205, 295]), (205, 3123509811847618220, [88, 206, 294]), (206, -6409987136850982844, [86, 207, 293]), (207, 4756720020380421537, [84, 208, 292]), (208, 8477283295693313758, [82, 209, 291]), (209, -6786788850813110008, [80, 210, 290]), (210, -7020796478656400418, [78, 211, 289]), (211, 560232831531095560, [76, 212, 288]), (212, -6719804084947051675, [74, 213, 287]), (213, -9207271745010795914, [72, 214, 286]), (214, -1058210795568586498, [70, 215, 285]), (215, 5679998687533500688, [68, 216, 284]), (216, 6288810886775619070, [66, 217, 283]), (217, 1582633698258481303, [64, 218, 282]), (218, -9209268887574095106, [62, 219, 281]), (219, -8184870878283410171, [60, 220, 280])]
def it100_11 : List (Nat × Int × List Int) := [(220, -8418878506126700581, [58, 221, 279]), (221, -3855495403728399568, [56, 222, 278]), (222, -4089503031571689978, [54, 223, 277]), (223, 3491526278615806000, [52, 224, 276]), (224, -8186868020846709363, [50, 225, 275]), (225, -6275978297926085474, [48, 226, 274]), (226, 4890728859305318907, [46, 227, 273]), (227, 4212934751633843000, [44, 228, 272]), (228, 9220104333860329510, [42, 229, 271]), (229, 4513927145343191743, [40, 230, 270]), (230, 4279919517499901333, [38, 231, 269]), (231, 7462591444703029183, [36, 232, 268]), (232, 182554528224881948, [34, 233, 267]), (233, -2304913131838862291, [32, 234, 266]), (234, -5630379145160826895, [30, 235, 265]), (235, 2024462342716148312, [28, 236, 264]), (236, -2681714845800989455, [26, 237, 263]), (237, 8484992311430414926, [24, 238, 262]), (238, -8050862039358512801, [22, 239, 261]), (239, 3115845117872891580, [20, 240, 260])]
def it100_12 : List (Nat × Int × List Int) := [(240, -3721486564803502198, [18, 241, 259]), (241, 3046863209443534055, [16, 242, 258]), (242, -7818851554078521583, [14, 243, 257]), (243, -8052859181921811993, [12, 244, 256]), (244, 5687707703270601856, [10, 245, 255]), (245, -6419648973389008676, [8, 246, 254]), (246, -4079796873271289618, [6, 247, 253]), (247, -2933093325919406865, [4, 248, 252]), (248, 249578601283720985, [2, 249, 251]), (249, -3981350739390520942, [99, 151, 250]), (250, 249578601283720985, [2, 249, 251]), (251, -2933093325919406865, [4, 248, 252]), (252, -4079796873271289618, [6, 247, 253]), (253, -6419648973389008676, [8, 246, 254]), (254, 5687707703270601856, [10, 245, 255]), (255, -8052859181921811993, [12, 244, 256]), (256, -7818851554078521583, [14, 243, 257]), (257, 3046863209443534055, [16, 242, 258]), (258, -3721486564803502198, [18, 241, 259]), (259, 3115845117872891580, [20, 240, 260])]
def it100_13 : List (Nat × Int × List Int) := [(260, -8050862039358512801, [22, 239, 261]), (261, 8484992311430414926, [24, 238, 262]), (262, -2681714845800989455, [26, 237, 263]), (263, 2024462342716148312, [28, 236, 264]), (264, -5630379145160826895, [30, 235, 265]), (265, -2304913131838862291, [32, 234, 266]), (266, 182554528224881948, [34, 233, 267]), (267, 7462591444703029183, [36, 232, 268]), (268, 4279919517499901333, [38, 231, 269]), (269, 4513927145343191743, [40, 230, 270]), (270, 9220104333860329510, [42, 229, 271]), (271, 4212934751633843000, [44, 228, 272]), (272, 4890728859305318907, [46, 227, 273]), (273, -6275978297926085474, [48, 226, 274]), (274, -8186868020846709363, [50, 225, 275]), (275, 3491526278615806000, [52, 224, 276]), (276, -4089503031571689978, [54, 223, 277]), (277, -3855495403728399568, [56, 222, 278]), (278, -8418878506126700581, [58, 221, 279]), (279, -8184870878283410171, [60, 220, 280])]
def it100_14 : List (Nat × Int × List Int) := [(280, -9209268887574095106, [62, 219, 281]), (281, 1582633698258481303, [64, 218, 282]), (282, 6288810886775619070, [66, 217, 283]), (283, 5679998687533500688, [68, 216, 284]), (284, -1058210795568586498, [70, 215, 285]), (285, -9207271745010795914, [72, 214, 286]), (286, -6719804084947051675, [74, 213, 287]), (287, 560232831531095560, [76, 212, 288]), (288, -7020796478656400418, [78, 211, 289]), (289, -6786788850813110008, [80, 210, 290]), (290, 8477283295693313758, [82, 209, 291]), (291, 4756720020380421537, [84, 208, 292]), (292, -6409987136850982844, [86, 207, 293]), (293, 3123509811847618220, [88, 206, 294]), (294, 3357517439690908630, [90, 205, 295]), (295, 174845512487780780, [92, 204, 296]), (296, 7454882428965928015, [94, 203, 297]), (297, 3734319153653035794, [96, 202, 298]), (298, 3125506954410917412, [98, 201, 299]), (299, -4944920343514624348, [100, 200, 300])]
def st100_0 : Rws Nat := ⟨⟨7, #[], #[], 0, true, 0, true⟩, []⟩
def st100_1 : Rws Nat := ⟨⟨127, #[0, 2, 10, 17, 25, 45, 60, 63, 64, 68, 71, 92, 95, 98, 103, 104, 106, 110, 111, 113], #[], 0, true, 2, true⟩, [(9, 5687707703270601856, [10, 245, 255]), (4, -4996177099019784062, [5, 148, 153]), (17, -3721486564803502198, [18, 241, 259]), (13, -7818851554078521583, [14, 243, 257]), (1, 249578601283720985, [2, 249, 251]), (12, -2131907724993912659, [13, 144, 157]), (19, 3115845117872891580, [20, 240, 260]), (14, -2740719924236031041, [15, 143, 158]), (16, 7635596851547978815, [17, 142, 159]), (0, 7570407243393040452, [1, 125, 126]), (8, 8357005324566015815, [9, 146, 155]), (7, -6419648973389008676, [8, 246, 254]), (2, 6170530058211620319, [3, 149, 152]), (18, -3531110305683425566, [19, 141, 160]), (11, -8052859181921811993, [12, 244, 256]), (15, 3046863209443534055, [16, 242, 258]), (10, -2809701832665388566, [11, 145, 156]), (5, -4079796873271289618, [6, 247, 253]), (3, -2933093325919406865, [4, 248, 252]), (6, -2508709438956039823, [7, 147, 154])]⟩
def st100_2 : Rws Nat := ⟨⟨127, #[0, 2, 10, 13, 17, 21, 25, 28, 40, 45, 46, 48, 49, 55, 56, 57, 60, 63, 64, 65, 66, 67, 68, 71, 73, 78, 88, 92, 95, 96, 98, 99, 103, 104, 106, 110, 111, 113, 114, 115], #[], 0, true, 2, true⟩, [(9, 5687707703270601856, [10, 245, 255]), (4, -4996177099019784062, [5, 148, 153]), (17, -3721486564803502198, [18, 241, 259]), (28, 56564683923782029, [29, 136, 165]), (13, -7818851554078521583, [14, 243, 257]), (37, 4279919517499901333, [38, 231, 269]), (1, 249578601283720985, [2, 249, 251]), (33, 182554528224881948, [34, 233, 267]), (38, 2216835744399524136, [39, 131, 170]), (12, -2131907724993912659, [13, 144, 157]), (31, -2304913131838862291, [32, 234, 266]), (32, -733825697523612496, [33, 134, 167]), (36, -3682489996883449936, [37, 132, 169]), (26, 3239236611126909879, [27, 137, 164]), (20, 7334604457838630072, [21, 140, 161]), (24, 4385940158478792632, [25, 138, 163]), (19, 3115845117872891580, [20, 240, 260]), (14, -2740719924236031041, [15, 143, 158]), (16, 7635596851547978815, [17, 142, 159]), (35, 7462591444703029183, [36, 232, 268]), (34, -1342637896765730878, [35, 133, 168]), (39, 4513927145343191743, [40, 230, 270]), (0, 7570407243393040452, [1, 125, 126]), (8, 8357005324566015815, [9, 146, 155]), (30, -5440002886040750263, [31, 135, 166]), (23, 8484992311430414926, [24, 238, 262]), (27, 2024462342716148312, [28, 236, 264]), (7, -6419648973389008676, [8, 246, 254]), (2, 6170530058211620319, [3, 149, 152]), (21, -8050862039358512801, [22, 239, 261]), (18, -3531110305683425566, [19, 141, 160]), (22, 7568612085681920482, [23, 139, 162]), (11, -8052859181921811993, [12, 244, 256]), (15, 3046863209443534055, [16, 242, 258]), (10, -2809701832665388566, [11, 145, 156]), (5, -4079796873271289618, [6, 247, 253]), (3, -2933093325919406865, [4, 248, 252]), (6, -2508709438956039823, [7, 147, 154]), (25, -2681714845800989455, [26, 237, 263]), (29, -5630379145160826895, [30, 235, 265])]⟩
def st100_3 : Rws Nat := ⟨⟨127, #[0, 2, 5, 6, 7, 10, 13, 14, 16, 17, 21, 25, 28, 30, 33, 38, 40, 41, 45, 46, 48, 49, 50, 51, 55, 56, 57, 58, 59, 60, 63, 64, 65, 66, 67, 68, 69, 71, 73, 74, 78, 88, 91, 92, 93, 95, 96, 98, 99, 103, 104, 106, 110, 111, 113, 114, 115, 116, 123, 126], #[], 0, true, 2, true⟩, [(9, 5687707703270601856, [10, 245, 255]), (4, -4996177099019784062, [5, 148, 153]), (54, 6004864831222338181, [55, 122, 177]), (53, -4089503031571689978, [54, 223, 277]), (59, -8184870878283410171, [60, 220, 280]), (17, -3721486564803502198, [18, 241, 259]), (28, 56564683923782029, [29, 136, 165]), (49, -8186868020846709363, [50, 225, 275]), (44, 4403311010753919632, [45, 128, 173]), (13, -7818851554078521583, [14, 243, 257]), (37, 4279919517499901333, [38, 231, 269]), (1, 249578601283720985, [2, 249, 251]), (33, 182554528224881948, [34, 233, 267]), (47, -6275978297926085474, [48, 226, 274]), (48, -1675961283031371615, [49, 150, 199]), (41, 9220104333860329510, [42, 229, 271]), (38, 2216835744399524136, [39, 131, 170]), (42, -731828554960313304, [43, 129, 172]), (12, -2131907724993912659, [13, 144, 157]), (31, -2304913131838862291, [32, 234, 266]), (32, -733825697523612496, [33, 134, 167]), (36, -3682489996883449936, [37, 132, 169]), (51, 3491526278615806000, [52, 224, 276]), (55, -3855495403728399568, [56, 222, 278]), (26, 3239236611126909879, [27, 137, 164]), (20, 7334604457838630072, [21, 140, 161]), (24, 4385940158478792632, [25, 138, 163]), (43, 4212934751633843000, [44, 228, 272]), (46, 9035676021581578170, [47, 127, 174]), (19, 3115845117872891580, [20, 240, 260]), (14, -2740719924236031041, [15, 143, 158]), (16, 7635596851547978815, [17, 142, 159]), (35, 7462591444703029183, [36, 232, 268]), (34, -1342637896765730878, [35, 133, 168]), (39, 4513927145343191743, [40, 230, 270]), (0, 7570407243393040452, [1, 125, 126]), (58, 7528370092536348098, [59, 120, 179]), (8, 8357005324566015815, [9, 146, 155]), (30, -5440002886040750263, [31, 135, 166]), (52, -6945311672522681143, [53, 123, 176]), (23, 8484992311430414926, [24, 238, 262]), (27, 2024462342716148312, [28, 236, 264]), (56, 2822192904019210331, [57, 121, 178]), (7, -6419648973389008676, [8, 246, 254]), (57, -8418878506126700581, [58, 221, 279]), (2, 6170530058211620319, [3, 149, 152]), (21, -8050862039358512801, [22, 239, 261]), (18, -3531110305683425566, [19, 141, 160]), (22, 7568612085681920482, [23, 139, 162]), (11, -8052859181921811993, [12, 244, 256]), (15, 3046863209443534055, [16, 242, 258]), (10, -2809701832665388566, [11, 145, 156]), (5, -4079796873271289618, [6, 247, 253]), (3, -2933093325919406865, [4, 248, 252]), (6, -2508709438956039823, [7, 147, 154]), (25, -2681714845800989455, [26, 237, 263]), (29, -5630379145160826895, [30, 235, 265]), (50, 635717637664814835, [51, 124, 175]), (45, 4890728859305318907, [46, 227, 273]), (40, -965836182803603714, [41, 130, 171])]⟩
def st100_4 : Rws Nat := ⟨⟨511, #[6, 8, 9, 38, 40, 41, 45, 48, 63, 68, 78, 88, 91, 118, 128, 130, 133, 144, 151, 158, 161, 162, 163, 173, 176, 184, 188, 191, 193, 201, 204, 220, 226, 231, 238, 239, 241, 243, 254, 255, 256, 261, 264, 272, 273, 281, 284, 296, 297, 304, 312, 327, 329, 340, 347, 351, 357, 369, 394, 397, 398, 405, 432, 439, 440, 442, 447, 448, 450, 451, 460, 475, 478, 479, 482, 487, 490, 497, 507, 510], #[], 0, true, 3, true⟩, [(53, -4089503031571689978, [54, 223, 277]), (75, 560232831531095560, [76, 212, 288]), (78, -5170427931090253816, [79, 110, 189]), (41, 9220104333860329510, [42, 229, 271]), (42, -731828554960313304, [43, 129, 172]), (70, 5619477512179023401, [71, 114, 185]), (31, -2304913131838862291, [32, 234, 266]), (51, 3491526278615806000, [52, 224, 276]), (16, 7635596851547978815, [17, 142, 159]), (0, 7570407243393040452, [1, 125, 126]), (23, 8484992311430414926, [24, 238, 262]), (27, 2024462342716148312, [28, 236, 264]), (56, 2822192904019210331, [57, 121, 178]), (71, -9207271745010795914, [72, 214, 286]), (9, 5687707703270601856, [10, 245, 255]), (4, -4996177099019784062, [5, 148, 153]), (54, 6004864831222338181, [55, 122, 177]), (44, 4403311010753919632, [45, 128, 173]), (63, 1582633698258481303, [64, 218, 282]), (47, -6275978297926085474, [48, 226, 274]), (48, -1675961283031371615, [49, 150, 199]), (74, -8729901572255508830, [75, 112, 187]), (76, 8570138954102160033, [77, 111, 188]), (12, -2131907724993912659, [13, 144, 157]), (32, -733825697523612496, [33, 134, 167]), (20, 7334604457838630072, [21, 140, 161]), (19, 3115845117872891580, [20, 240, 260]), (39, 4513927145343191743, [40, 230, 270]), (64, 3433002245824627905, [65, 117, 182]), (52, -6945311672522681143, [53, 123, 176]), (72, -5547229645052380980, [73, 113, 186]), (7, -6419648973389008676, [8, 246, 254]), (18, -3531110305683425566, [19, 141, 160]), (15, 3046863209443534055, [16, 242, 258]), (5, -4079796873271289618, [6, 247, 253]), (3, -2933093325919406865, [4, 248, 252]), (25, -2681714845800989455, [26, 237, 263]), (50, 635717637664814835, [51, 124, 175]), (69, -1058210795568586498, [70, 215, 285]), (61, -9209268887574095106, [62, 219, 281]), (40, -965836182803603714, [41, 130, 171]), (59, -8184870878283410171, [60, 220, 280]), (79, -6786788850813110008, [80, 210, 290]), (67, 5679998687533500688, [68, 216, 284]), (13, -7818851554078521583, [14, 243, 257]), (1, 249578601283720985, [2, 249, 251]), (33, 182554528224881948, [34, 233, 267]), (38, 2216835744399524136, [39, 131, 170]), (66, -5480244879186322647, [67, 116, 183]), (55, -3855495403728399568, [56, 222, 278]), (43, 4212934751633843000, [44, 228, 272]), (8, 8357005324566015815, [9, 146, 155]), (30, -5440002886040750263, [31, 135, 166]), (62, -5549226787615680172, [63, 118, 181]), (60, -4524828778324995237, [61, 119, 180]), (21, -8050862039358512801, [22, 239, 261]), (73, -6719804084947051675, [74, 213, 287]), (6, -2508709438956039823, [7, 147, 154]), (17, -3721486564803502198, [18, 241, 259]), (28, 56564683923782029, [29, 136, 165]), (49, -8186868020846709363, [50, 225, 275]), (37, 4279919517499901333, [38, 231, 269]), (36, -3682489996883449936, [37, 132, 169]), (26, 3239236611126909879, [27, 137, 164]), (24, 4385940158478792632, [25, 138, 163]), (46, 9035676021581578170, [47, 127, 174]), (14, -2740719924236031041, [15, 143, 158]), (35, 7462591444703029183, [36, 232, 268]), (34, -1342637896765730878, [35, 133, 168]), (58, 7528370092536348098, [59, 120, 179]), (68, 1799792037291824588, [69, 115, 184]), (57, -8418878506126700581, [58, 221, 279]), (77, -7020796478656400418, [78, 211, 289]), (2, 6170530058211620319, [3, 149, 152]), (22, 7568612085681920482, [23, 139, 162]), (11, -8052859181921811993, [12, 244, 256]), (10, -2809701832665388566, [11, 145, 156]), (29, -5630379145160826895, [30, 235, 265]), (45, 4890728859305318907, [46, 227, 273]), (65, 6288810886775619070, [66, 217, 283])]⟩
def st100_5 : Rws Nat := ⟨⟨511, #[6, 8, 9, 36, 38, 40, 41, 45, 48, 51, 63, 68, 69, 78, 79, 88, 91, 111, 118, 128, 130, 133, 144, 151, 154, 158, 161, 162, 163, 164, 165, 172, 173, 174, 176, 184, 188, 191, 193, 201, 204, 220, 222, 226, 231, 238, 239, 241, 243, 254, 255, 256, 261, 264, 272, 273, 274, 275, 281, 284, 296, 297, 304, 312, 317, 327, 329, 340, 347, 351, 357, 369, 378, 394, 397, 398, 402, 405, 410, 417, 428, 432, 439, 440, 442, 447, 448, 450, 451, 460, 470, 475, 478, 479, 482, 487, 490, 497, 507, 510], #[], 0, true, 3, true⟩, [(53, -4089503031571689978, [54, 223, 277]), (75, 560232831531095560, [76, 212, 288]), (78, -5170427931090253816, [79, 110, 189]), (97, 3125506954410917412, [98, 201, 299]), (41, 9220104333860329510, [42, 229, 271]), (42, -731828554960313304, [43, 129, 172]), (70, 5619477512179023401, [71, 114, 185]), (31, -2304913131838862291, [32, 234, 266]), (51, 3491526278615806000, [52, 224, 276]), (80, -109100543065500109, [81, 109, 190]), (16, 7635596851547978815, [17, 142, 159]), (0, 7570407243393040452, [1, 125, 126]), (85, -6409987136850982844, [86, 207, 293]), (23, 8484992311430414926, [24, 238, 262]), (93, 7454882428965928015, [94, 203, 297]), (27, 2024462342716148312, [28, 236, 264]), (56, 2822192904019210331, [57, 121, 178]), (90, -2680963128463210385, [91, 104, 195]), (71, -9207271745010795914, [72, 214, 286]), (9, 5687707703270601856, [10, 245, 255]), (4, -4996177099019784062, [5, 148, 153]), (54, 6004864831222338181, [55, 122, 177]), (44, 4403311010753919632, [45, 128, 173]), (63, 1582633698258481303, [64, 218, 282]), (86, -2749945036892567910, [87, 106, 193]), (47, -6275978297926085474, [48, 226, 274]), (48, -1675961283031371615, [49, 150, 199]), (74, -8729901572255508830, [75, 112, 187]), (76, 8570138954102160033, [77, 111, 188]), (96, -8478523092137091420, [97, 101, 198]), (99, -4944920343514624348, [100, 200, 300]), (84, 3988264446209519276, [85, 107, 192]), (12, -2131907724993912659, [13, 144, 157]), (87, 3123509811847618220, [88, 206, 294]), (32, -733825697523612496, [33, 134, 167]), (20, 7334604457838630072, [21, 140, 161]), (19, 3115845117872891580, [20, 240, 260]), (39, 4513927145343191743, [40, 230, 270]), (64, 3433002245824627905, [65, 117, 182]), (52, -6945311672522681143, [53, 123, 176]), (72, -5547229645052380980, [73, 113, 186]), (7, -6419648973389008676, [8, 246, 254]), (81, 8477283295693313758, [82, 209, 291]), (18, -3531110305683425566, [19, 141, 160]), (15, 3046863209443534055, [16, 242, 258]), (5, -4079796873271289618, [6, 247, 253]), (3, -2933093325919406865, [4, 248, 252]), (25, -2681714845800989455, [26, 237, 263]), (50, 635717637664814835, [51, 124, 175]), (69, -1058210795568586498, [70, 215, 285]), (61, -9209268887574095106, [62, 219, 281]), (40, -965836182803603714, [41, 130, 171]), (59, -8184870878283410171, [60, 220, 280]), (79, -6786788850813110008, [80, 210, 290]), (67, 5679998687533500688, [68, 216, 284]), (13, -7818851554078521583, [14, 243, 257]), (92, 4599073788014936850, [93, 103, 196]), (95, 3734319153653035794, [96, 202, 298]), (1, 249578601283720985, [2, 249, 251]), (33, 182554528224881948, [34, 233, 267]), (38, 2216835744399524136, [39, 131, 170]), (66, -5480244879186322647, [67, 116, 183]), (55, -3855495403728399568, [56, 222, 278]), (43, 4212934751633843000, [44, 228, 272]), (88, 8928449262569947453, [89, 105, 194]), (8, 8357005324566015815, [9, 146, 155]), (30, -5440002886040750263, [31, 135, 166]), (62, -5549226787615680172, [63, 118, 181]), (60, -4524828778324995237, [61, 119, 180]), (21, -8050862039358512801, [22, 239, 261]), (73, -6719804084947051675, [74, 213, 287]), (6, -2508709438956039823, [7, 147, 154]), (94, -8712530719980381830, [95, 102, 197]), (17, -3721486564803502198, [18, 241, 259]), (28, 56564683923782029, [29, 136, 165]), (49, -8186868020846709363, [50, 225, 275]), (98, -3981350739390520942, [99, 151, 250]), (37, 4279919517499901333, [38, 231, 269]), (82, 4597076645451637658, [83, 108, 191]), (83, 4756720020380421537, [84, 208, 292]), (91, 174845512487780780, [92, 204, 296]), (36, -3682489996883449936, [37, 132, 169]), (26, 3239236611126909879, [27, 137, 164]), (24, 4385940158478792632, [25, 138, 163]), (46, 9035676021581578170, [47, 127, 174]), (14, -2740719924236031041, [15, 143, 158]), (35, 7462591444703029183, [36, 232, 268]), (34, -1342637896765730878, [35, 133, 168]), (58, 7528370092536348098, [59, 120, 179]), (68, 1799792037291824588, [69, 115, 184]), (89, 3357517439690908630, [90, 205, 295]), (57, -8418878506126700581, [58, 221, 279]), (77, -7020796478656400418, [78, 211, 289]), (2, 6170530058211620319, [3, 149, 152]), (22, 7568612085681920482, [23, 139, 162]), (11, -8052859181921811993, [12, 244, 256]), (10, -2809701832665388566, [11, 145, 156]), (29, -5630379145160826895, [30, 235, 265]), (45, 4890728859305318907, [46, 227, 273]), (65, 6288810886775619070, [66, 217, 283])]⟩
def st100_6 : Rws Nat := ⟨⟨511, #[6, 8, 9, 36, 38, 40, 41, 45, 48, 51, 63, 68, 69, 78, 79, 88, 91, 111, 118, 128, 130, 133, 144, 151, 154, 158, 161, 162, 163, 164, 165, 172, 173, 174, 176, 184, 188, 191, 193, 201, 204, 220, 222, 226, 231, 238, 239, 241, 243, 254, 255, 256, 261, 264, 272, 273, 274, 275, 281, 284, 296, 297, 304, 312, 317, 327, 329, 340, 347, 351, 357, 369, 378, 394, 397, 398, 402, 405, 410, 417, 428, 432, 439, 440, 442, 447, 448, 450, 451, 460, 470, 475, 478, 479, 482, 487, 490, 497, 507, 510], #[], 0, true, 3, true⟩, [(53, -4089503031571689978, [54, 223, 277]), (75, 560232831531095560, [76, 212, 288]), (78, -5170427931090253816, [79, 110, 189]), (97, 3125506954410917412, [98, 201, 299]), (41, 9220104333860329510, [42, 229, 271]), (42, -731828554960313304, [43, 129, 172]), (70, 5619477512179023401, [71, 114, 185]), (31, -2304913131838862291, [32, 234, 266]), (51, 3491526278615806000, [52, 224, 276]), (80, -109100543065500109, [81, 109, 190]), (16, 7635596851547978815, [17, 142, 159]), (0, 7570407243393040452, [1, 125, 126]), (85, -6409987136850982844, [86, 207, 293]), (23, 8484992311430414926, [24, 238, 262]), (93, 7454882428965928015, [94, 203, 297]), (27, 2024462342716148312, [28, 236, 264]), (56, 2822192904019210331, [57, 121, 178]), (90, -2680963128463210385, [91, 104, 195]), (71, -9207271745010795914, [72, 214, 286]), (9, 5687707703270601856, [10, 245, 255]), (4, -4996177099019784062, [5, 148, 153]), (54, 6004864831222338181, [55, 122, 177]), (44, 4403311010753919632, [45, 128, 173]), (63, 1582633698258481303, [64, 218, 282]), (86, -2749945036892567910, [87, 106, 193]), (47, -6275978297926085474, [48, 226, 274]), (48, -1675961283031371615, [49, 150, 199]), (74, -8729901572255508830, [75, 112, 187]), (76, 8570138954102160033, [77, 111, 188]), (96, -8478523092137091420, [97, 101, 198]), (99, -4944920343514624348, [100, 200, 300]), (84, 3988264446209519276, [85, 107, 192]), (12, -2131907724993912659, [13, 144, 157]), (87, 3123509811847618220, [88, 206, 294]), (32, -733825697523612496, [33, 134, 167]), (20, 7334604457838630072, [21, 140, 161]), (19, 3115845117872891580, [20, 240, 260]), (39, 4513927145343191743, [40, 230, 270]), (64, 3433002245824627905, [65, 117, 182]), (52, -6945311672522681143, [53, 123, 176]), (72, -5547229645052380980, [73, 113, 186]), (7, -6419648973389008676, [8, 246, 254]), (81, 8477283295693313758, [82, 209, 291]), (18, -3531110305683425566, [19, 141, 160]), (15, 3046863209443534055, [16, 242, 258]), (5, -4079796873271289618, [6, 247, 253]), (3, -2933093325919406865, [4, 248, 252]), (25, -2681714845800989455, [26, 237, 263]), (50, 635717637664814835, [51, 124, 175]), (69, -1058210795568586498, [70, 215, 285]), (61, -9209268887574095106, [62, 219, 281]), (40, -965836182803603714, [41, 130, 171]), (59, -8184870878283410171, [60, 220, 280]), (79, -6786788850813110008, [80, 210, 290]), (67, 5679998687533500688, [68, 216, 284]), (13, -7818851554078521583, [14, 243, 257]), (92, 4599073788014936850, [93, 103, 196]), (95, 3734319153653035794, [96, 202, 298]), (1, 249578601283720985, [2, 249, 251]), (33, 182554528224881948, [34, 233, 267]), (38, 2216835744399524136, [39, 131, 170]), (66, -5480244879186322647, [67, 116, 183]), (55, -3855495403728399568, [56, 222, 278]), (43, 4212934751633843000, [44, 228, 272]), (88, 8928449262569947453, [89, 105, 194]), (8, 8357005324566015815, [9, 146, 155]), (30, -5440002886040750263, [31, 135, 166]), (62, -5549226787615680172, [63, 118, 181]), (60, -4524828778324995237, [61, 119, 180]), (21, -8050862039358512801, [22, 239, 261]), (73, -6719804084947051675, [74, 213, 287]), (6, -2508709438956039823, [7, 147, 154]), (94, -8712530719980381830, [95, 102, 197]), (17, -3721486564803502198, [18, 241, 259]), (28, 56564683923782029, [29, 136, 165]), (49, -8186868020846709363, [50, 225, 275]), (98, -3981350739390520942, [99, 151, 250]), (37, 4279919517499901333, [38, 231, 269]), (82, 4597076645451637658, [83, 108, 191]), (83, 4756720020380421537, [84, 208, 292]), (91, 174845512487780780, [92, 204, 296]), (36, -3682489996883449936, [37, 132, 169]), (26, 3239236611126909879, [27, 137, 164]), (24, 4385940158478792632, [25, 138, 163]), (46, 9035676021581578170, [47, 127, 174]), (14, -2740719924236031041, [15, 143, 158]), (35, 7462591444703029183, [36, 232, 268]), (34, -1342637896765730878, [35, 133, 168]), (58, 7528370092536348098, [59, 120, 179]), (68, 1799792037291824588, [69, 115, 184]), (89, 3357517439690908630, [90, 205, 295]), (57, -8418878506126700581, [58, 221, 279]), (77, -7020796478656400418, [78, 211, 289]), (2, 6170530058211620319, [3, 149, 152]), (22, 7568612085681920482, [23, 139, 162]), (11, -8052859181921811993, [12, 244, 256]), (10, -2809701832665388566, [11, 145, 156]), (29, -5630379145160826895, [30, 235, 265]), (45, 4890728859305318907, [46, 227, 273]), (65, 6288810886775619070, [66, 217, 283])]⟩
def st100_7 : Rws Nat := ⟨⟨511, #[6, 8, 9, 36, 38, 40, 41, 45, 48, 51, 63, 68, 69, 78, 79, 88, 91, 111, 118, 128, 130, 133, 144, 151, 154, 158, 161, 162, 163, 164, 165, 172, 173, 174, 176, 184, 188, 191, 193, 201, 204, 220, 222, 226, 231, 238, 239, 241, 243, 254, 255, 256, 261, 264, 272, 273, 274, 275, 281, 284, 296, 297, 304, 312, 317, 327, 329, 340, 347, 351, 357, 369, 378, 394, 397, 398, 402, 405, 410, 417, 428, 432, 439, 440, 442, 447, 448, 450, 451, 460, 470, 475, 478, 479, 482, 487, 490, 497, 507, 510], #[], 0, true, 3, true⟩, [(53, -4089503031571689978, [54, 223, 277]), (75, 560232831531095560, [76, 212, 288]), (78, -5170427931090253816, [79, 110, 189]), (97, 3125506954410917412, [98, 201, 299]), (41, 9220104333860329510, [42, 229, 271]), (42, -731828554960313304, [43, 129, 172]), (70, 5619477512179023401, [71, 114, 185]), (31, -2304913131838862291, [32, 234, 266]), (51, 3491526278615806000, [52, 224, 276]), (80, -109100543065500109, [81, 109, 190]), (16, 7635596851547978815, [17, 142, 159]), (0, 7570407243393040452, [1, 125, 126]), (85, -6409987136850982844, [86, 207, 293]), (23, 8484992311430414926, [24, 238, 262]), (93, 7454882428965928015, [94, 203, 297]), (27, 2024462342716148312, [28, 236, 264]), (56, 2822192904019210331, [57, 121, 178]), (90, -2680963128463210385, [91, 104, 195]), (71, -9207271745010795914, [72, 214, 286]), (9, 5687707703270601856, [10, 245, 255]), (4, -4996177099019784062, [5, 148, 153]), (54, 6004864831222338181, [55, 122, 177]), (44, 4403311010753919632, [45, 128, 173]), (63, 1582633698258481303, [64, 218, 282]), (86, -2749945036892567910, [87, 106, 193]), (47, -6275978297926085474, [48, 226, 274]), (48, -1675961283031371615, [49, 150, 199]), (74, -8729901572255508830, [75, 112, 187]), (76, 8570138954102160033, [77, 111, 188]), (96, -8478523092137091420, [97, 101, 198]), (99, -4944920343514624348, [100, 200, 300]), (84, 3988264446209519276, [85, 107, 192]), (12, -2131907724993912659, [13, 144, 157]), (87, 3123509811847618220, [88, 206, 294]), (32, -733825697523612496, [33, 134, 167]), (20, 7334604457838630072, [21, 140, 161]), (19, 3115845117872891580, [20, 240, 260]), (39, 4513927145343191743, [40, 230, 270]), (64, 3433002245824627905, [65, 117, 182]), (52, -6945311672522681143, [53, 123, 176]), (72, -5547229645052380980, [73, 113, 186]), (7, -6419648973389008676, [8, 246, 254]), (81, 8477283295693313758, [82, 209, 291]), (18, -3531110305683425566, [19, 141, 160]), (15, 3046863209443534055, [16, 242, 258]), (5, -4079796873271289618, [6, 247, 253]), (3, -2933093325919406865, [4, 248, 252]), (25, -2681714845800989455, [26, 237, 263]), (50, 635717637664814835, [51, 124, 175]), (69, -1058210795568586498, [70, 215, 285]), (61, -9209268887574095106, [62, 219, 281]), (40, -965836182803603714, [41, 130, 171]), (59, -8184870878283410171, [60, 220, 280]), (79, -6786788850813110008, [80, 210, 290]), (67, 5679998687533500688, [68, 216, 284]), (13, -7818851554078521583, [14, 243, 257]), (92, 4599073788014936850, [93, 103, 196]), (95, 3734319153653035794, [96, 202, 298]), (1, 249578601283720985, [2, 249, 251]), (33, 182554528224881948, [34, 233, 267]), (38, 2216835744399524136, [39, 131, 170]), (66, -5480244879186322647, [67, 116, 183]), (55, -3855495403728399568, [56, 222, 278]), (43, 4212934751633843000, [44, 228, 272]), (88, 8928449262569947453, [89, 105, 194]), (8, 8357005324566015815, [9, 146, 155]), (30, -5440002886040750263, [31, 135, 166]), (62, -5549226787615680172, [63, 118, 181]), (60, -4524828778324995237, [61, 119, 180]), (21, -8050862039358512801, [22, 239, 261]), (73, -6719804084947051675, [74, 213, 287]), (6, -2508709438956039823, [7, 147, 154]), (94, -8712530719980381830, [95, 102, 197]), (17, -3721486564803502198, [18, 241, 259]), (28, 56564683923782029, [29, 136, 165]), (49, -8186868020846709363, [50, 225, 275]), (98, -3981350739390520942, [99, 151, 250]), (37, 4279919517499901333, [38, 231, 269]), (82, 4597076645451637658, [83, 108, 191]), (83, 4756720020380421537, [84, 208, 292]), (91, 174845512487780780, [92, 204, 296]), (36, -3682489996883449936, [37, 132, 169]), (26, 3239236611126909879, [27, 137, 164]), (24, 4385940158478792632, [25, 138, 163]), (46, 9035676021581578170, [47, 127, 174]), (14, -2740719924236031041, [15, 143, 158]), (35, 7462591444703029183, [36, 232, 268]), (34, -1342637896765730878, [35, 133, 168]), (58, 7528370092536348098, [59, 120, 179]), (68, 1799792037291824588, [69, 115, 184]), (89, 3357517439690908630, [90, 205, 295]), (57, -8418878506126700581, [58, 221, 279]), (77, -7020796478656400418, [78, 211, 289]), (2, 6170530058211620319, [3, 149, 152]), (22, 7568612085681920482, [23, 139, 162]), (11, -8052859181921811993, [12, 244, 256]), (10, -2809701832665388566, [11, 145, 156]), (29, -5630379145160826895, [30, 235, 265]), (45, 4890728859305318907, [46, 227, 273]), (65, 6288810886775619070, [66, 217, 283])]⟩
def st100_8 : Rws Nat := ⟨⟨511, #[6, 8, 9, 36, 38, 40, 41, 45, 48, 51, 63, 68, 69, 78, 79, 88, 91, 111, 118, 128, 130, 133, 144, 151, 154, 158, 161, 162, 163, 164, 165, 172, 173, 174, 176, 184, 188, 191, 193, 201, 204, 220, 222, 226, 231, 238, 239, 241, 243, 254, 255, 256, 261, 264, 272, 273, 274, 275, 281, 284, 296, 297, 304, 312, 317, 327, 329, 340, 347, 351, 357, 369, 378, 394, 397, 398, 402, 405, 410, 417, 428, 432, 439, 440, 442, 447, 448, 450, 451, 460, 470, 475, 478, 479, 482, 487, 490, 497, 507, 510], #[], 0, true, 3, true⟩, [(53, -4089503031571689978, [54, 223, 277]), (75, 560232831531095560, [76, 212, 288]), (78, -5170427931090253816, [79, 110, 189]), (97, 3125506954410917412, [98, 201, 299]), (41, 9220104333860329510, [42, 229, 271]), (42, -731828554960313304, [43, 129, 172]), (70, 5619477512179023401, [71, 114, 185]), (31, -2304913131838862291, [32, 234, 266]), (51, 3491526278615806000, [52, 224, 276]), (80, -109100543065500109, [81, 109, 190]), (16, 7635596851547978815, [17, 142, 159]), (0, 7570407243393040452, [1, 125, 126]), (85, -6409987136850982844, [86, 207, 293]), (23, 8484992311430414926, [24, 238, 262]), (93, 7454882428965928015, [94, 203, 297]), (27, 2024462342716148312, [28, 236, 264]), (56, 2822192904019210331, [57, 121, 178]), (90, -2680963128463210385, [91, 104, 195]), (71, -9207271745010795914, [72, 214, 286]), (9, 5687707703270601856, [10, 245, 255]), (4, -4996177099019784062, [5, 148, 153]), (54, 6004864831222338181, [55, 122, 177]), (44, 4403311010753919632, [45, 128, 173]), (63, 1582633698258481303, [64, 218, 282]), (86, -2749945036892567910, [87, 106, 193]), (47, -6275978297926085474, [48, 226, 274]), (48, -1675961283031371615, [49, 150, 199]), (74, -8729901572255508830, [75, 112, 187]), (76, 8570138954102160033, [77, 111, 188]), (96, -8478523092137091420, [97, 101, 198]), (99, -4944920343514624348, [100, 200, 300]), (84, 3988264446209519276, [85, 107, 192]), (12, -2131907724993912659, [13, 144, 157]), (87, 3123509811847618220, [88, 206, 294]), (32, -733825697523612496, [33, 134, 167]), (20, 7334604457838630072, [21, 140, 161]), (19, 3115845117872891580, [20, 240, 260]), (39, 4513927145343191743, [40, 230, 270]), (64, 3433002245824627905, [65, 117, 182]), (52, -6945311672522681143, [53, 123, 176]), (72, -5547229645052380980, [73, 113, 186]), (7, -6419648973389008676, [8, 246, 254]), (81, 8477283295693313758, [82, 209, 291]), (18, -3531110305683425566, [19, 141, 160]), (15, 3046863209443534055, [16, 242, 258]), (5, -4079796873271289618, [6, 247, 253]), (3, -2933093325919406865, [4, 248, 252]), (25, -2681714845800989455, [26, 237, 263]), (50, 635717637664814835, [51, 124, 175]), (69, -1058210795568586498, [70, 215, 285]), (61, -9209268887574095106, [62, 219, 281]), (40, -965836182803603714, [41, 130, 171]), (59, -8184870878283410171, [60, 220, 280]), (79, -6786788850813110008, [80, 210, 290]), (67, 5679998687533500688, [68, 216, 284]), (13, -7818851554078521583, [14, 243, 257]), (92, 4599073788014936850, [93, 103, 196]), (95, 3734319153653035794, [96, 202, 298]), (1, 249578601283720985, [2, 249, 251]), (33, 182554528224881948, [34, 233, 267]), (38, 2216835744399524136, [39, 131, 170]), (66, -5480244879186322647, [67, 116, 183]), (55, -3855495403728399568, [56, 222, 278]), (43, 4212934751633843000, [44, 228, 272]), (88, 8928449262569947453, [89, 105, 194]), (8, 8357005324566015815, [9, 146, 155]), (30, -5440002886040750263, [31, 135, 166]), (62, -5549226787615680172, [63, 118, 181]), (60, -4524828778324995237, [61, 119, 180]), (21, -8050862039358512801, [22, 239, 261]), (73, -6719804084947051675, [74, 213, 287]), (6, -2508709438956039823, [7, 147, 154]), (94, -8712530719980381830, [95, 102, 197]), (17, -3721486564803502198, [18, 241, 259]), (28, 56564683923782029, [29, 136, 165]), (49, -8186868020846709363, [50, 225, 275]), (98, -3981350739390520942, [99, 151, 250]), (37, 4279919517499901333, [38, 231, 269]), (82, 4597076645451637658, [83, 108, 191]), (83, 4756720020380421537, [84, 208, 292]), (91, 174845512487780780, [92, 204, 296]), (36, -3682489996883449936, [37, 132, 169]), (26, 3239236611126909879, [27, 137, 164]), (24, 4385940158478792632, [25, 138, 163]), (46, 9035676021581578170, [47, 127, 174]), (14, -2740719924236031041, [15, 143, 158]), (35, 7462591444703029183, [36, 232, 268]), (34, -1342637896765730878, [35, 133, 168]), (58, 7528370092536348098, [59, 120, 179]), (68, 1799792037291824588, [69, 115, 184]), (89, 3357517439690908630, [90, 205, 295]), (57, -8418878506126700581, [58, 221, 279]), (77, -7020796478656400418, [78, 211, 289]), (2, 6170530058211620319, [3, 149, 152]), (22, 7568612085681920482, [23, 139, 162]), (11, -8052859181921811993, [12, 244, 256]), (10, -2809701832665388566, [11, 145, 156]), (29, -5630379145160826895, [30, 235, 265]), (45, 4890728859305318907, [46, 227, 273]), (65, 6288810886775619070, [66, 217, 283])]⟩
def st100_9 : Rws Nat := ⟨⟨511, #[6, 8, 9, 36, 38, 40, 41, 45, 48, 51, 63, 68, 69, 78, 79, 88, 91, 111, 118, 128, 130, 133, 144, 151, 154, 158, 161, 162, 163, 164, 165, 172, 173, 174, 176, 184, 188, 191, 193, 201, 204, 220, 222, 226, 231, 238, 239, 241, 243, 254, 255, 256, 261, 264, 272, 273, 274, 275, 281, 284, 296, 297, 304, 312, 317, 327, 329, 340, 347, 351, 357, 369, 378, 394, 397, 398, 402, 405, 410, 417, 428, 432, 439, 440, 442, 447, 448, 450, 451, 460, 470, 475, 478, 479, 482, 487, 490, 497, 507, 510], #[], 0, true, 3, true⟩, [(53, -4089503031571689978, [54, 223, 277]), (75, 560232831531095560, [76, 212, 288]), (78, -5170427931090253816, [79, 110, 189]), (97, 3125506954410917412, [98, 201, 299]), (41, 9220104333860329510, [42, 229, 271]), (42, -731828554960313304, [43, 129, 172]), (70, 5619477512179023401, [71, 114, 185]), (31, -2304913131838862291, [32, 234, 266]), (51, 3491526278615806000, [52, 224, 276]), (80, -109100543065500109, [81, 109, 190]), (16, 7635596851547978815, [17, 142, 159]), (0, 7570407243393040452, [1, 125, 126]), (85, -6409987136850982844, [86, 207, 293]), (23, 8484992311430414926, [24, 238, 262]), (93, 7454882428965928015, [94, 203, 297]), (27, 2024462342716148312, [28, 236, 264]), (56, 2822192904019210331, [57, 121, 178]), (90, -2680963128463210385, [91, 104, 195]), (71, -9207271745010795914, [72, 214, 286]), (9, 5687707703270601856, [10, 245, 255]), (4, -4996177099019784062, [5, 148, 153]), (54, 6004864831222338181, [55, 122, 177]), (44, 4403311010753919632, [45, 128, 173]), (63, 1582633698258481303, [64, 218, 282]), (86, -2749945036892567910, [87, 106, 193]), (47, -6275978297926085474, [48, 226, 274]), (48, -1675961283031371615, [49, 150, 199]), (74, -8729901572255508830, [75, 112, 187]), (76, 8570138954102160033, [77, 111, 188]), (96, -8478523092137091420, [97, 101, 198]), (99, -4944920343514624348, [100, 200, 300]), (84, 3988264446209519276, [85, 107, 192]), (12, -2131907724993912659, [13, 144, 157]), (87, 3123509811847618220, [88, 206, 294]), (32, -733825697523612496, [33, 134, 167]), (20, 7334604457838630072, [21, 140, 161]), (19, 3115845117872891580, [20, 240, 260]), (39, 4513927145343191743, [40, 230, 270]), (64, 3433002245824627905, [65, 117, 182]), (52, -6945311672522681143, [53, 123, 176]), (72, -5547229645052380980, [73, 113, 186]), (7, -6419648973389008676, [8, 246, 254]), (81, 8477283295693313758, [82, 209, 291]), (18, -3531110305683425566, [19, 141, 160]), (15, 3046863209443534055, [16, 242, 258]), (5, -4079796873271289618, [6, 247, 253]), (3, -2933093325919406865, [4, 248, 252]), (25, -2681714845800989455, [26, 237, 263]), (50, 635717637664814835, [51, 124, 175]), (69, -1058210795568586498, [70, 215, 285]), (61, -9209268887574095106, [62, 219, 281]), (40, -965836182803603714, [41, 130, 171]), (59, -8184870878283410171, [60, 220, 280]), (79, -6786788850813110008, [80, 210, 290]), (67, 5679998687533500688, [68, 216, 284]), (13, -7818851554078521583, [14, 243, 257]), (92, 4599073788014936850, [93, 103, 196]), (95, 3734319153653035794, [96, 202, 298]), (1, 249578601283720985, [2, 249, 251]), (33, 182554528224881948, [34, 233, 267]), (38, 2216835744399524136, [39, 131, 170]), (66, -5480244879186322647, [67, 116, 183]), (55, -3855495403728399568, [56, 222, 278]), (43, 4212934751633843000, [44, 228, 272]), (88, 8928449262569947453, [89, 105, 194]), (8, 8357005324566015815, [9, 146, 155]), (30, -5440002886040750263, [31, 135, 166]), (62, -5549226787615680172, [63, 118, 181]), (60, -4524828778324995237, [61, 119, 180]), (21, -8050862039358512801, [22, 239, 261]), (73, -6719804084947051675, [74, 213, 287]), (6, -2508709438956039823, [7, 147, 154]), (94, -8712530719980381830, [95, 102, 197]), (17, -3721486564803502198, [18, 241, 259]), (28, 56564683923782029, [29, 136, 165]), (49, -8186868020846709363, [50, 225, 275]), (98, -3981350739390520942, [99, 151, 250]), (37, 4279919517499901333, [38, 231, 269]), (82, 4597076645451637658, [83, 108, 191]), (83, 4756720020380421537, [84, 208, 292]), (91, 174845512487780780, [92, 204, 296]), (36, -3682489996883449936, [37, 132, 169]), (26, 3239236611126909879, [27, 137, 164]), (24, 4385940158478792632, [25, 138, 163]), (46, 9035676021581578170, [47, 127, 174]), (14, -2740719924236031041, [15, 143, 158]), (35, 7462591444703029183, [36, 232, 268]), (34, -1342637896765730878, [35, 133, 168]), (58, 7528370092536348098, [59, 120, 179]), (68, 1799792037291824588, [69, 115, 184]), (89, 3357517439690908630, [90, 205, 295]), (57, -8418878506126700581, [58, 221, 279]), (77, -7020796478656400418, [78, 211, 289]), (2, 6170530058211620319, [3, 149, 152]), (22, 7568612085681920482, [23, 139, 162]), (11, -8052859181921811993, [12, 244, 256]), (10, -2809701832665388566, [11, 145, 156]), (29, -5630379145160826895, [30, 235, 265]), (45, 4890728859305318907, [46, 227, 273]), (65, 6288810886775619070, [66, 217, 283])]⟩
def st100_10 : Rws Nat := ⟨⟨511, #[6, 8, 9, 36, 38, 40, 41, 45, 48, 51, 63, 68, 69, 78, 79, 88, 91, 111, 118, 128, 130, 133, 144, 151, 154, 158, 161, 162, 163, 164, 165, 172, 173, 174, 176, 184, 188, 191, 193, 201, 204, 220, 222, 226, 231, 238, 239, 241, 243, 254, 255, 256, 261, 264, 272, 273, 274, 275, 281, 284, 296, 297, 304, 312, 317, 327, 329, 340, 347, 351, 357, 369, 378, 394, 397, 398, 402, 405, 410, 417, 428, 432, 439, 440, 442, 447, 448, 450, 451, 460, 470, 475, 478, 479, 482, 487, 490, 497, 507, 510], #[], 0, true, 3, true⟩, [(53, -4089503031571689978, [54, 223, 277]), (75, 560232831531095560, [76, 212, 288]), (78, -5170427931090253816, [79, 110, 189]), (97, 3125506954410917412, [98, 201, 299]), (41, 9220104333860329510, [42, 229, 271]), (42, -731828554960313304, [43, 129, 172]), (70, 5619477512179023401, [71, 114, 185]), (31, -2304913131838862291, [32, 234, 266]), (51, 3491526278615806000, [52, 224, 276]), (80, -109100543065500109, [81, 109, 190]), (16, 7635596851547978815, [17, 142, 159]), (0, 7570407243393040452, [1, 125, 126]), (85, -6409987136850982844, [86, 207, 293]), (23, 8484992311430414926, [24, 238, 262]), (93, 7454882428965928015, [94, 203, 297]), (27, 2024462342716148312, [28, 236, 264]), (56, 2822192904019210331, [57, 121, 178]), (90, -2680963128463210385, [91, 104, 195]), (71, -9207271745010795914, [72, 214, 286]), (9, 5687707703270601856, [10, 245, 255]), (4, -4996177099019784062, [5, 148, 153]), (54, 6004864831222338181, [55, 122, 177]), (44, 4403311010753919632, [45, 128, 173]), (63, 1582633698258481303, [64, 218, 282]), (86, -2749945036892567910, [87, 106, 193]), (47, -6275978297926085474, [48, 226, 274]), (48, -1675961283031371615, [49, 150, 199]), (74, -8729901572255508830, [75, 112, 187]), (76, 8570138954102160033, [77, 111, 188]), (96, -8478523092137091420, [97, 101, 198]), (99, -4944920343514624348, [100, 200, 300]), (84, 3988264446209519276, [85, 107, 192]), (12, -2131907724993912659, [13, 144, 157]), (87, 3123509811847618220, [88, 206, 294]), (32, -733825697523612496, [33, 134, 167]), (20, 7334604457838630072, [21, 140, 161]), (19, 3115845117872891580, [20, 240, 260]), (39, 4513927145343191743, [40, 230, 270]), (64, 3433002245824627905, [65, 117, 182]), (52, -6945311672522681143, [53, 123, 176]), (72, -5547229645052380980, [73, 113, 186]), (7, -6419648973389008676, [8, 246, 254]), (81, 8477283295693313758, [82, 209, 291]), (18, -3531110305683425566, [19, 141, 160]), (15, 3046863209443534055, [16, 242, 258]), (5, -4079796873271289618, [6, 247, 253]), (3, -2933093325919406865, [4, 248, 252]), (25, -2681714845800989455, [26, 237, 263]), (50, 635717637664814835, [51, 124, 175]), (69, -1058210795568586498, [70, 215, 285]), (61, -9209268887574095106, [62, 219, 281]), (40, -965836182803603714, [41, 130, 171]), (59, -8184870878283410171, [60, 220, 280]), (79, -6786788850813110008, [80, 210, 290]), (67, 5679998687533500688, [68, 216, 284]), (13, -7818851554078521583, [14, 243, 257]), (92, 4599073788014936850, [93, 103, 196]), (95, 3734319153653035794, [96, 202, 298]), (1, 249578601283720985, [2, 249, 251]), (33, 182554528224881948, [34, 233, 267]), (38, 2216835744399524136, [39, 131, 170]), (66, -5480244879186322647, [67, 116, 183]), (55, -3855495403728399568, [56, 222, 278]), (43, 4212934751633843000, [44, 228, 272]), (88, 8928449262569947453, [89, 105, 194]), (8, 8357005324566015815, [9, 146, 155]), (30, -5440002886040750263, [31, 135, 166]), (62, -5549226787615680172, [63, 118, 181]), (60, -4524828778324995237, [61, 119, 180]), (21, -8050862039358512801, [22, 239, 261]), (73, -6719804084947051675, [74, 213, 287]), (6, -2508709438956039823, [7, 147, 154]), (94, -8712530719980381830, [95, 102, 197]), (17, -3721486564803502198, [18, 241, 259]), (28, 56564683923782029, [29, 136, 165]), (49, -8186868020846709363, [50, 225, 275]), (98, -3981350739390520942, [99, 151, 250]), (37, 4279919517499901333, [38, 231, 269]), (82, 4597076645451637658, [83, 108, 191]), (83, 4756720020380421537, [84, 208, 292]), (91, 174845512487780780, [92, 204, 296]), (36, -3682489996883449936, [37, 132, 169]), (26, 3239236611126909879, [27, 137, 164]), (24, 4385940158478792632, [25, 138, 163]), (46, 9035676021581578170, [47, 127, 174]), (14, -2740719924236031041, [15, 143, 158]), (35, 7462591444703029183, [36, 232, 268]), (34, -1342637896765730878, [35, 133, 168]), (58, 7528370092536348098, [59, 120, 179]), (68, 1799792037291824588, [69, 115, 184]), (89, 3357517439690908630, [90, 205, 295]), (57, -8418878506126700581, [58, 221, 279]), (77, -7020796478656400418, [78, 211, 289]), (2, 6170530058211620319, [3, 149, 152]), (22, 7568612085681920482, [23, 139, 162]), (11, -8052859181921811993, [12, 244, 256]), (10, -2809701832665388566, [11, 145, 156]), (29, -5630379145160826895, [30, 235, 265]), (45, 4890728859305318907, [46, 227, 273]), (65, 6288810886775619070, [66, 217, 283])]⟩
def st100_11 : Rws Nat := ⟨⟨511, #[6, 8, 9, 36, 38, 40, 41, 45, 48, 51, 63, 68, 69, 78, 79, 88, 91, 111, 118, 128, 130, 133, 144, 151, 154, 158, 161, 162, 163, 164, 165, 172, 173, 174, 176, 184, 188, 191, 193, 201, 204, 220, 222, 226, 231, 238, 239, 241, 243, 254, 255, 256, 261, 264, 272, 273, 274, 275, 281, 284, 296, 297, 304, 312, 317, 327, 329, 340, 347, 351, 357, 369, 378, 394, 397, 398, 402, 405, 410, 417, 428, 432, 439, 440, 442, 447, 448, 450, 451, 460, 470, 475, 478, 479, 482, 487, 490, 497, 507, 510], #[], 0, true, 3, true⟩, [(53, -4089503031571689978, [54, 223, 277]), (75, 560232831531095560, [76, 212, 288]), (78, -5170427931090253816, [79, 110, 189]), (97, 3125506954410917412, [98, 201, 299]), (41, 9220104333860329510, [42, 229, 271]), (42, -731828554960313304, [43, 129, 172]), (70, 5619477512179023401, [71, 114, 185]), (31, -2304913131838862291, [32, 234, 266]), (51, 3491526278615806000, [52, 224, 276]), (80, -109100543065500109, [81, 109, 190]), (16, 7635596851547978815, [17, 142, 159]), (0, 7570407243393040452, [1, 125, 126]), (85, -6409987136850982844, [86, 207, 293]), (23, 8484992311430414926, [24, 238, 262]), (93, 7454882428965928015, [94, 203, 297]), (27, 2024462342716148312, [28, 236, 264]), (56, 2822192904019210331, [57, 121, 178]), (90, -2680963128463210385, [91, 104, 195]), (71, -9207271745010795914, [72, 214, 286]), (9, 5687707703270601856, [10, 245, 255]), (4, -4996177099019784062, [5, 148, 153]), (54, 6004864831222338181, [55, 122, 177]), (44, 4403311010753919632, [45, 128, 173]), (63, 1582633698258481303, [64, 218, 282]), (86, -2749945036892567910, [87, 106, 193]), (47, -6275978297926085474, [48, 226, 274]), (48, -1675961283031371615, [49, 150, 199]), (74, -8729901572255508830, [75, 112, 187]), (76, 8570138954102160033, [77, 111, 188]), (96, -8478523092137091420, [97, 101, 198]), (99, -4944920343514624348, [100, 200, 300]), (84, 3988264446209519276, [85, 107, 192]), (12, -2131907724993912659, [13, 144, 157]), (87, 3123509811847618220, [88, 206, 294]), (32, -733825697523612496, [33, 134, 167]), (20, 7334604457838630072, [21, 140, 161]), (19, 3115845117872891580, [20, 240, 260]), (39, 4513927145343191743, [40, 230, 270]), (64, 3433002245824627905, [65, 117, 182]), (52, -6945311672522681143, [53, 123, 176]), (72, -5547229645052380980, [73, 113, 186]), (7, -6419648973389008676, [8, 246, 254]), (81, 8477283295693313758, [82, 209, 291]), (18, -3531110305683425566, [19, 141, 160]), (15, 3046863209443534055, [16, 242, 258]), (5, -4079796873271289618, [6, 247, 253]), (3, -2933093325919406865, [4, 248, 252]), (25, -2681714845800989455, [26, 237, 263]), (50, 635717637664814835, [51, 124, 175]), (69, -1058210795568586498, [70, 215, 285]), (61, -9209268887574095106, [62, 219, 281]), (40, -965836182803603714, [41, 130, 171]), (59, -8184870878283410171, [60, 220, 280]), (79, -6786788850813110008, [80, 210, 290]), (67, 5679998687533500688, [68, 216, 284]), (13, -7818851554078521583, [14, 243, 257]), (92, 4599073788014936850, [93, 103, 196]), (95, 3734319153653035794, [96, 202, 298]), (1, 249578601283720985, [2, 249, 251]), (33, 182554528224881948, [34, 233, 267]), (38, 2216835744399524136, [39, 131, 170]), (66, -5480244879186322647, [67, 116, 183]), (55, -3855495403728399568, [56, 222, 278]), (43, 4212934751633843000, [44, 228, 272]), (88, 8928449262569947453, [89, 105, 194]), (8, 8357005324566015815, [9, 146, 155]), (30, -5440002886040750263, [31, 135, 166]), (62, -5549226787615680172, [63, 118, 181]), (60, -4524828778324995237, [61, 119, 180]), (21, -8050862039358512801, [22, 239, 261]), (73, -6719804084947051675, [74, 213, 287]), (6, -2508709438956039823, [7, 147, 154]), (94, -8712530719980381830, [95, 102, 197]), (17, -3721486564803502198, [18, 241, 259]), (28, 56564683923782029, [29, 136, 165]), (49, -8186868020846709363, [50, 225, 275]), (98, -3981350739390520942, [99, 151, 250]), (37, 4279919517499901333, [38, 231, 269]), (82, 4597076645451637658, [83, 108, 191]), (83, 4756720020380421537, [84, 208, 292]), (91, 174845512487780780, [92, 204, 296]), (36, -3682489996883449936, [37, 132, 169]), (26, 3239236611126909879, [27, 137, 164]), (24, 4385940158478792632, [25, 138, 163]), (46, 9035676021581578170, [47, 127, 174]), (14, -2740719924236031041, [15, 143, 158]), (35, 7462591444703029183, [36, 232, 268]), (34, -1342637896765730878, [35, 133, 168]), (58, 7528370092536348098, [59, 120, 179]), (68, 1799792037291824588, [69, 115, 184]), (89, 3357517439690908630, [90, 205, 295]), (57, -8418878506126700581, [58, 221, 279]), (77, -7020796478656400418, [78, 211, 289]), (2, 6170530058211620319, [3, 149, 152]), (22, 7568612085681920482, [23, 139, 162]), (11, -8052859181921811993, [12, 244, 256]), (10, -2809701832665388566, [11, 145, 156]), (29, -5630379145160826895, [30, 235, 265]), (45, 4890728859305318907, [46, 227, 273]), (65, 6288810886775619070, [66, 217, 283])]⟩
def st100_12 : Rws Nat := ⟨⟨511, #[6, 8, 9, 36, 38, 40, 41, 45, 48, 51, 63, 68, 69, 78, 79, 88, 91, 111, 118, 128, 130, 133, 144, 151, 154, 158, 161, 162, 163, 164, 165, 172, 173, 174, 176, 184, 188, 191, 193, 201, 204, 220, 222, 226, 231, 238, 239, 241, 243, 254, 255, 256, 261, 264, 272, 273, 274, 275, 281, 284, 296, 297, 304, 312, 317, 327, 329, 340, 347, 351, 357, 369, 378, 394, 397, 398, 402, 405, 410, 417, 428, 432, 439, 440, 442, 447, 448, 450, 451, 460, 470, 475, 478, 479, 482, 487, 490, 497, 507, 510], #[], 0, true, 3, true⟩, [(53, -4089503031571689978, [54, 223, 277]), (75, 560232831531095560, [76, 212, 288]), (78, -5170427931090253816, [79, 110, 189]), (97, 3125506954410917412, [98, 201, 299]), (41, 9220104333860329510, [42, 229, 271]), (42, -731828554960313304, [43, 129, 172]), (70, 5619477512179023401, [71, 114, 185]), (31, -2304913131838862291, [32, 234, 266]), (51, 3491526278615806000, [52, 224, 276]), (80, -109100543065500109, [81, 109, 190]), (16, 7635596851547978815, [17, 142, 159]), (0, 7570407243393040452, [1, 125, 126]), (85, -6409987136850982844, [86, 207, 293]), (23, 8484992311430414926, [24, 238, 262]), (93, 7454882428965928015, [94, 203, 297]), (27, 2024462342716148312, [28, 236, 264]), (56, 2822192904019210331, [57, 121, 178]), (90, -2680963128463210385, [91, 104, 195]), (71, -9207271745010795914, [72, 214, 286]), (9, 5687707703270601856, [10, 245, 255]), (4, -4996177099019784062, [5, 148, 153]), (54, 6004864831222338181, [55, 122, 177]), (44, 4403311010753919632, [45, 128, 173]), (63, 1582633698258481303, [64, 218, 282]), (86, -2749945036892567910, [87, 106, 193]), (47, -6275978297926085474, [48, 226, 274]), (48, -1675961283031371615, [49, 150, 199]), (74, -8729901572255508830, [75, 112, 187]), (76, 8570138954102160033, [77, 111, 188]), (96, -8478523092137091420, [97, 101, 198]), (99, -4944920343514624348, [100, 200, 300]), (84, 3988264446209519276, [85, 107, 192]), (12, -2131907724993912659, [13, 144, 157]), (87, 3123509811847618220, [88, 206, 294]), (32, -733825697523612496, [33, 134, 167]), (20, 7334604457838630072, [21, 140, 161]), (19, 3115845117872891580, [20, 240, 260]), (39, 4513927145343191743, [40, 230, 270]), (64, 3433002245824627905, [65, 117, 182]), (52, -6945311672522681143, [53, 123, 176]), (72, -5547229645052380980, [73, 113, 186]), (7, -6419648973389008676, [8, 246, 254]), (81, 8477283295693313758, [82, 209, 291]), (18, -3531110305683425566, [19, 141, 160]), (15, 3046863209443534055, [16, 242, 258]), (5, -4079796873271289618, [6, 247, 253]), (3, -2933093325919406865, [4, 248, 252]), (25, -2681714845800989455, [26, 237, 263]), (50, 635717637664814835, [51, 124, 175]), (69, -1058210795568586498, [70, 215, 285]), (61, -9209268887574095106, [62, 219, 281]), (40, -965836182803603714, [41, 130, 171]), (59, -8184870878283410171, [60, 220, 280]), (79, -6786788850813110008, [80, 210, 290]), (67, 5679998687533500688, [68, 216, 284]), (13, -7818851554078521583, [14, 243, 257]), (92, 4599073788014936850, [93, 103, 196]), (95, 3734319153653035794, [96, 202, 298]), (1, 249578601283720985, [2, 249, 251]), (33, 182554528224881948, [34, 233, 267]), (38, 2216835744399524136, [39, 131, 170]), (66, -5480244879186322647, [67, 116, 183]), (55, -3855495403728399568, [56, 222, 278]), (43, 4212934751633843000, [44, 228, 272]), (88, 8928449262569947453, [89, 105, 194]), (8, 8357005324566015815, [9, 146, 155]), (30, -5440002886040750263, [31, 135, 166]), (62, -5549226787615680172, [63, 118, 181]), (60, -4524828778324995237, [61, 119, 180]), (21, -8050862039358512801, [22, 239, 261]), (73, -6719804084947051675, [74, 213, 287]), (6, -2508709438956039823, [7, 147, 154]), (94, -8712530719980381830, [95, 102, 197]), (17, -3721486564803502198, [18, 241, 259]), (28, 56564683923782029, [29, 136, 165]), (49, -8186868020846709363, [50, 225, 275]), (98, -3981350739390520942, [99, 151, 250]), (37, 4279919517499901333, [38, 231, 269]), (82, 4597076645451637658, [83, 108, 191]), (83, 4756720020380421537, [84, 208, 292]), (91, 174845512487780780, [92, 204, 296]), (36, -3682489996883449936, [37, 132, 169]), (26, 3239236611126909879, [27, 137, 164]), (24, 4385940158478792632, [25, 138, 163]), (46, 9035676021581578170, [47, 127, 174]), (14, -2740719924236031041, [15, 143, 158]), (35, 7462591444703029183, [36, 232, 268]), (34, -1342637896765730878, [35, 133, 168]), (58, 7528370092536348098, [59, 120, 179]), (68, 1799792037291824588, [69, 115, 184]), (89, 3357517439690908630, [90, 205, 295]), (57, -8418878506126700581, [58, 221, 279]), (77, -7020796478656400418, [78, 211, 289]), (2, 6170530058211620319, [3, 149, 152]), (22, 7568612085681920482, [23, 139, 162]), (11, -8052859181921811993, [12, 244, 256]), (10, -2809701832665388566, [11, 145, 156]), (29, -5630379145160826895, [30, 235, 265]), (45, 4890728859305318907, [46, 227, 273]), (65, 6288810886775619070, [66, 217, 283])]⟩
def st100_13 : Rws Nat := ⟨⟨511, #[6, 8, 9, 36, 38, 40, 41, 45, 48, 51, 63, 68, 69, 78, 79, 88, 91, 111, 118, 128, 130, 133, 144, 151, 154, 158, 161, 162, 163, 164, 165, 172, 173, 174, 176, 184, 188, 191, 193, 201, 204, 220, 222, 226, 231, 238, 239, 241, 243, 254, 255, 256, 261, 264, 272, 273, 274, 275, 281, 284, 296, 297, 304, 312, 317, 327, 329, 340, 347, 351, 357, 369, 378, 394, 397, 398, 402, 405, 410, 417, 428, 432, 439, 440, 442, 447, 448, 450, 451, 460, 470, 475, 478, 479, 482, 487, 490, 497, 507, 510], #[], 0, true, 3, true⟩, [(53, -4089503031571689978, [54, 223, 277]), (75, 560232831531095560, [76, 212, 288]), (78, -5170427931090253816, [79, 110, 189]), (97, 3125506954410917412, [98, 201, 299]), (41, 9220104333860329510, [42, 229, 271]), (42, -731828554960313304, [43, 129, 172]), (70, 5619477512179023401, [71, 114, 185]), (31, -2304913131838862291, [32, 234, 266]), (51, 3491526278615806000, [52, 224, 276]), (80, -109100543065500109, [81, 109, 190]), (16, 7635596851547978815, [17, 142, 159]), (0, 7570407243393040452, [1, 125, 126]), (85, -6409987136850982844, [86, 207, 293]), (23, 8484992311430414926, [24, 238, 262]), (93, 7454882428965928015, [94, 203, 297]), (27, 2024462342716148312, [28, 236, 264]), (56, 2822192904019210331, [57, 121, 178]), (90, -2680963128463210385, [91, 104, 195]), (71, -9207271745010795914, [72, 214, 286]), (9, 5687707703270601856, [10, 245, 255]), (4, -4996177099019784062, [5, 148, 153]), (54, 6004864831222338181, [55, 122, 177]), (44, 4403311010753919632, [45, 128, 173]), (63, 1582633698258481303, [64, 218, 282]), (86, -2749945036892567910, [87, 106, 193]), (47, -6275978297926085474, [48, 226, 274]), (48, -1675961283031371615, [49, 150, 199]), (74, -8729901572255508830, [75, 112, 187]), (76, 8570138954102160033, [77, 111, 188]), (96, -8478523092137091420, [97, 101, 198]), (99, -4944920343514624348, [100, 200, 300]), (84, 3988264446209519276, [85, 107, 192]), (12, -2131907724993912659, [13, 144, 157]), (87, 3123509811847618220, [88, 206, 294]), (32, -733825697523612496, [33, 134, 167]), (20, 7334604457838630072, [21, 140, 161]), (19, 3115845117872891580, [20, 240, 260]), (39, 4513927145343191743, [40, 230, 270]), (64, 3433002245824627905, [65, 117, 182]), (52, -6945311672522681143, [53, 123, 176]), (72, -5547229645052380980, [73, 113, 186]), (7, -6419648973389008676, [8, 246, 254]), (81, 8477283295693313758, [82, 209, 291]), (18, -3531110305683425566, [19, 141, 160]), (15, 3046863209443534055, [16, 242, 258]), (5, -4079796873271289618, [6, 247, 253]), (3, -2933093325919406865, [4, 248, 252]), (25, -2681714845800989455, [26, 237, 263]), (50, 635717637664814835, [51, 124, 175]), (69, -1058210795568586498, [70, 215, 285]), (61, -9209268887574095106, [62, 219, 281]), (40, -965836182803603714, [41, 130, 171]), (59, -8184870878283410171, [60, 220, 280]), (79, -6786788850813110008, [80, 210, 290]), (67, 5679998687533500688, [68, 216, 284]), (13, -7818851554078521583, [14, 243, 257]), (92, 4599073788014936850, [93, 103, 196]), (95, 3734319153653035794, [96, 202, 298]), (1, 249578601283720985, [2, 249, 251]), (33, 182554528224881948, [34, 233, 267]), (38, 2216835744399524136, [39, 131, 170]), (66, -5480244879186322647, [67, 116, 183]), (55, -3855495403728399568, [56, 222, 278]), (43, 4212934751633843000, [44, 228, 272]), (88, 8928449262569947453, [89, 105, 194]), (8, 8357005324566015815, [9, 146, 155]), (30, -5440002886040750263, [31, 135, 166]), (62, -5549226787615680172, [63, 118, 181]), (60, -4524828778324995237, [61, 119, 180]), (21, -8050862039358512801, [22, 239, 261]), (73, -6719804084947051675, [74, 213, 287]), (6, -2508709438956039823, [7, 147, 154]), (94, -8712530719980381830, [95, 102, 197]), (17, -3721486564803502198, [18, 241, 259]), (28, 56564683923782029, [29, 136, 165]), (49, -8186868020846709363, [50, 225, 275]), (98, -3981350739390520942, [99, 151, 250]), (37, 4279919517499901333, [38, 231, 269]), (82, 4597076645451637658, [83, 108, 191]), (83, 4756720020380421537, [84, 208, 292]), (91, 174845512487780780, [92, 204, 296]), (36, -3682489996883449936, [37, 132, 169]), (26, 3239236611126909879, [27, 137, 164]), (24, 4385940158478792632, [25, 138, 163]), (46, 9035676021581578170, [47, 127, 174]), (14, -2740719924236031041, [15, 143, 158]), (35, 7462591444703029183, [36, 232, 268]), (34, -1342637896765730878, [35, 133, 168]), (58, 7528370092536348098, [59, 120, 179]), (68, 1799792037291824588, [69, 115, 184]), (89, 3357517439690908630, [90, 205, 295]), (57, -8418878506126700581, [58, 221, 279]), (77, -7020796478656400418, [78, 211, 289]), (2, 6170530058211620319, [3, 149, 152]), (22, 7568612085681920482, [23, 139, 162]), (11, -8052859181921811993, [12, 244, 256]), (10, -2809701832665388566, [11, 145, 156]), (29, -5630379145160826895, [30, 235, 265]), (45, 4890728859305318907, [46, 227, 273]), (65, 6288810886775619070, [66, 217, 283])]⟩
def st100_14 : Rws Nat := ⟨⟨511, #[6, 8, 9, 36, 38, 40, 41, 45, 48, 51, 63, 68, 69, 78, 79, 88, 91, 111, 118, 128, 130, 133, 144, 151, 154, 158, 161, 162, 163, 164, 165, 172, 173, 174, 176, 184, 188, 191, 193, 201, 204, 220, 222, 226, 231, 238, 239, 241, 243, 254, 255, 256, 261, 264, 272, 273, 274, 275, 281, 284, 296, 297, 304, 312, 317, 327, 329, 340, 347, 351, 357, 369, 378, 394, 397, 398, 402, 405, 410, 417, 428, 432, 439, 440, 442, 447, 448, 450, 451, 460, 470, 475, 478, 479, 482, 487, 490, 497, 507, 510], #[], 0, true, 3, true⟩, [(53, -4089503031571689978, [54, 223, 277]), (75, 560232831531095560, [76, 212, 288]), (78, -5170427931090253816, [79, 110, 189]), (97, 3125506954410917412, [98, 201, 299]), (41, 9220104333860329510, [42, 229, 271]), (42, -731828554960313304, [43, 129, 172]), (70, 5619477512179023401, [71, 114, 185]), (31, -2304913131838862291, [32, 234, 266]), (51, 3491526278615806000, [52, 224, 276]), (80, -109100543065500109, [81, 109, 190]), (16, 7635596851547978815, [17, 142, 159]), (0, 7570407243393040452, [1, 125, 126]), (85, -6409987136850982844, [86, 207, 293]), (23, 8484992311430414926, [24, 238, 262]), (93, 7454882428965928015, [94, 203, 297]), (27, 2024462342716148312, [28, 236, 264]), (56, 2822192904019210331, [57, 121, 178]), (90, -2680963128463210385, [91, 104, 195]), (71, -9207271745010795914, [72, 214, 286]), (9, 5687707703270601856, [10, 245, 255]), (4, -4996177099019784062, [5, 148, 153]), (54, 6004864831222338181, [55, 122, 177]), (44, 4403311010753919632, [45, 128, 173]), (63, 1582633698258481303, [64, 218, 282]), (86, -2749945036892567910, [87, 106, 193]), (47, -6275978297926085474, [48, 226, 274]), (48, -1675961283031371615, [49, 150, 199]), (74, -8729901572255508830, [75, 112, 187]), (76, 8570138954102160033, [77, 111, 188]), (96, -8478523092137091420, [97, 101, 198]), (99, -4944920343514624348, [100, 200, 300]), (84, 3988264446209519276, [85, 107, 192]), (12, -2131907724993912659, [13, 144, 157]), (87, 3123509811847618220, [88, 206, 294]), (32, -733825697523612496, [33, 134, 167]), (20, 7334604457838630072, [21, 140, 161]), (19, 3115845117872891580, [20, 240, 260]), (39, 4513927145343191743, [40, 230, 270]), (64, 3433002245824627905, [65, 117, 182]), (52, -6945311672522681143, [53, 123, 176]), (72, -5547229645052380980, [73, 113, 186]), (7, -6419648973389008676, [8, 246, 254]), (81, 8477283295693313758, [82, 209, 291]), (18, -3531110305683425566, [19, 141, 160]), (15, 3046863209443534055, [16, 242, 258]), (5, -4079796873271289618, [6, 247, 253]), (3, -2933093325919406865, [4, 248, 252]), (25, -2681714845800989455, [26, 237, 263]), (50, 635717637664814835, [51, 124, 175]), (69, -1058210795568586498, [70, 215, 285]), (61, -9209268887574095106, [62, 219, 281]), (40, -965836182803603714, [41, 130, 171]), (59, -8184870878283410171, [60, 220, 280]), (79, -6786788850813110008, [80, 210, 290]), (67, 5679998687533500688, [68, 216, 284]), (13, -7818851554078521583, [14, 243, 257]), (92, 4599073788014936850, [93, 103, 196]), (95, 3734319153653035794, [96, 202, 298]), (1, 249578601283720985, [2, 249, 251]), (33, 182554528224881948, [34, 233, 267]), (38, 2216835744399524136, [39, 131, 170]), (66, -5480244879186322647, [67, 116, 183]), (55, -3855495403728399568, [56, 222, 278]), (43, 4212934751633843000, [44, 228, 272]), (88, 8928449262569947453, [89, 105, 194]), (8, 8357005324566015815, [9, 146, 155]), (30, -5440002886040750263, [31, 135, 166]), (62, -5549226787615680172, [63, 118, 181]), (60, -4524828778324995237, [61, 119, 180]), (21, -8050862039358512801, [22, 239, 261]), (73, -6719804084947051675, [74, 213, 287]), (6, -2508709438956039823, [7, 147, 154]), (94, -8712530719980381830, [95, 102, 197]), (17, -3721486564803502198, [18, 241, 259]), (28, 56564683923782029, [29, 136, 165]), (49, -8186868020846709363, [50, 225, 275]), (98, -3981350739390520942, [99, 151, 250]), (37, 4279919517499901333, [38, 231, 269]), (82, 4597076645451637658, [83, 108, 191]), (83, 4756720020380421537, [84, 208, 292]), (91, 174845512487780780, [92, 204, 296]), (36, -3682489996883449936, [37, 132, 169]), (26, 3239236611126909879, [27, 137, 164]), (24, 4385940158478792632, [25, 138, 163]), (46, 9035676021581578170, [47, 127, 174]), (14, -2740719924236031041, [15, 143, 158]), (35, 7462591444703029183, [36, 232, 268]), (34, -1342637896765730878, [35, 133, 168]), (58, 7528370092536348098, [59, 120, 179]), (68, 1799792037291824588, [69, 115, 184]), (89, 3357517439690908630, [90, 205, 295]), (57, -8418878506126700581, [58, 221, 279]), (77, -7020796478656400418, [78, 211, 289]), (2, 6170530058211620319, [3, 149, 152]), (22, 7568612085681920482, [23, 139, 162]), (11, -8052859181921811993, [12, 244, 256]), (10, -2809701832665388566, [11, 145, 156]), (29, -5630379145160826895, [30, 235, 265]), (45, 4890728859305318907, [46, 227, 273]), (65, 6288810886775619070, [66, 217, 283])]⟩
def st100_15 : Rws Nat := ⟨⟨511, #[6, 8, 9, 36, 38, 40, 41, 45, 48, 51, 63, 68, 69, 78, 79, 88, 91, 111, 118, 128, 130, 133, 144, 151, 154, 158, 161, 162, 163, 164, 165, 172, 173, 174, 176, 184, 188, 191, 193, 201, 204, 220, 222, 226, 231, 238, 239, 241, 243, 254, 255, 256, 261, 264, 272, 273, 274, 275, 281, 284, 296, 297, 304, 312, 317, 327, 329, 340, 347, 351, 357, 369, 378, 394, 397, 398, 402, 405, 410, 417, 428, 432, 439, 440, 442, 447, 448, 450, 451, 460, 470, 475, 478, 479, 482, 487, 490, 497, 507, 510], #[], 0, true, 3, true⟩, [(53, -4089503031571689978, [54, 223, 277]), (75, 560232831531095560, [76, 212, 288]), (78, -5170427931090253816, [79, 110, 189]), (97, 3125506954410917412, [98, 201, 299]), (41, 9220104333860329510, [42, 229, 271]), (42, -731828554960313304, [43, 129, 172]), (70, 5619477512179023401, [71, 114, 185]), (31, -2304913131838862291, [32, 234, 266]), (51, 3491526278615806000, [52, 224, 276]), (80, -109100543065500109, [81, 109, 190]), (16, 7635596851547978815, [17, 142, 159]), (0, 7570407243393040452, [1, 125, 126]), (85, -6409987136850982844, [86, 207, 293]), (23, 8484992311430414926, [24, 238, 262]), (93, 7454882428965928015, [94, 203, 297]), (27, 2024462342716148312, [28, 236, 264]), (56, 2822192904019210331, [57, 121, 178]), (90, -2680963128463210385, [91, 104, 195]), (71, -9207271745010795914, [72, 214, 286]), (9, 5687707703270601856, [10, 245, 255]), (4, -4996177099019784062, [5, 148, 153]), (54, 6004864831222338181, [55, 122, 177]), (44, 4403311010753919632, [45, 128, 173]), (63, 1582633698258481303, [64, 218, 282]), (86, -2749945036892567910, [87, 106, 193]), (47, -6275978297926085474, [48, 226, 274]), (48, -1675961283031371615, [49, 150, 199]), (74, -8729901572255508830, [75, 112, 187]), (76, 8570138954102160033, [77, 111, 188]), (96, -8478523092137091420, [97, 101, 198]), (99, -4944920343514624348, [100, 200, 300]), (84, 3988264446209519276, [85, 107, 192]), (12, -2131907724993912659, [13, 144, 157]), (87, 3123509811847618220, [88, 206, 294]), (32, -733825697523612496, [33, 134, 167]), (20, 7334604457838630072, [21, 140, 161]), (19, 3115845117872891580, [20, 240, 260]), (39, 4513927145343191743, [40, 230, 270]), (64, 3433002245824627905, [65, 117, 182]), (52, -6945311672522681143, [53, 123, 176]), (72, -5547229645052380980, [73, 113, 186]), (7, -6419648973389008676, [8, 246, 254]), (81, 8477283295693313758, [82, 209, 291]), (18, -3531110305683425566, [19, 141, 160]), (15, 3046863209443534055, [16, 242, 258]), (5, -4079796873271289618, [6, 247, 253]), (3, -2933093325919406865, [4, 248, 252]), (25, -2681714845800989455, [26, 237, 263]), (50, 635717637664814835, [51, 124, 175]), (69, -1058210795568586498, [70, 215, 285]), (61, -9209268887574095106, [62, 219, 281]), (40, -965836182803603714, [41, 130, 171]), (59, -8184870878283410171, [60, 220, 280]), (79, -6786788850813110008, [80, 210, 290]), (67, 5679998687533500688, [68, 216, 284]), (13, -7818851554078521583, [14, 243, 257]), (92, 4599073788014936850, [93, 103, 196]), (95, 3734319153653035794, [96, 202, 298]), (1, 249578601283720985, [2, 249, 251]), (33, 182554528224881948, [34, 233, 267]), (38, 2216835744399524136, [39, 131, 170]), (66, -5480244879186322647, [67, 116, 183]), (55, -3855495403728399568, [56, 222, 278]), (43, 4212934751633843000, [44, 228, 272]), (88, 8928449262569947453, [89, 105, 194]), (8, 8357005324566015815, [9, 146, 155]), (30, -5440002886040750263, [31, 135, 166]), (62, -5549226787615680172, [63, 118, 181]), (60, -4524828778324995237, [61, 119, 180]), (21, -8050862039358512801, [22, 239, 261]), (73, -6719804084947051675, [74, 213, 287]), (6, -2508709438956039823, [7, 147, 154]), (94, -8712530719980381830, [95, 102, 197]), (17, -3721486564803502198, [18, 241, 259]), (28, 56564683923782029, [29, 136, 165]), (49, -8186868020846709363, [50, 225, 275]), (98, -3981350739390520942, [99, 151, 250]), (37, 4279919517499901333, [38, 231, 269]), (82, 4597076645451637658, [83, 108, 191]), (83, 4756720020380421537, [84, 208, 292]), (91, 174845512487780780, [92, 204, 296]), (36, -3682489996883449936, [37, 132, 169]), (26, 3239236611126909879, [27, 137, 164]), (24, 4385940158478792632, [25, 138, 163]), (46, 9035676021581578170, [47, 127, 174]), (14, -2740719924236031041, [15, 143, 158]), (35, 7462591444703029183, [36, 232, 268]), (34, -1342637896765730878, [35, 133, 168]), (58, 7528370092536348098, [59, 120, 179]), (68, 1799792037291824588, [69, 115, 184]), (89, 3357517439690908630, [90, 205, 295]), (57, -8418878506126700581, [58, 221, 279]), (77, -7020796478656400418, [78, 211, 289]), (2, 6170530058211620319, [3, 149, 152]), (22, 7568612085681920482, [23, 139, 162]), (11, -8052859181921811993, [12, 244, 256]), (10, -2809701832665388566, [11, 145, 156]), (29, -5630379145160826895, [30, 235, 265]), (45, 4890728859305318907, [46, 227, 273]), (65, 6288810886775619070, [66, 217, 283])]⟩
theorem fo100_0 : foldP st100_0 it100_0 = some st100_1 := by decide +kernel
theorem fo100_1 : foldP st100_1 it100_1 = some st100_2 := by decide +kernel
theorem fo100_2 : foldP st100_2 it100_2 = some st100_3 := by decide +kernel
theorem fo100_3 : foldP st100_3 it100_3 = some st100_4 := by decide +kernel
theorem fo100_4 : foldP st100_4 it100_4 = some st100_5 := by decide +kernel
theorem fo100_5 : foldP st100_5 it100_5 = some st100_6 := by decide +kernel
theorem fo100_6 : foldP st100_6 it100_6 = some st100_7 := by decide +kernel
theorem fo100_7 : foldP st100_7 it100_7 = some st100_8 := by decide +kernel
theorem fo100_8 : foldP st100_8 it100_8 = some st100_9 := by decide +kernel
theorem fo100_9 : foldP st100_9 it100_9 = some st100_10 := by decide +kernel
theorem fo100_10 : foldP st100_10 it100_10 = some st100_11 := by decide +kernel
theorem fo100_11 : foldP st100_11 it100_11 = some st100_12 := by decide +kernel
theorem fo100_12 : foldP st100_12 it100_12 = some st100_13 := by decide +kernel
theorem fo100_13 : foldP st100_13 it100_13 = some st100_14 := by decide +kernel
theorem fo100_14 : foldP st100_14 it100_14 = some st100_15 := by decide +kernel
theorem items100 : itemsOf 100 = it100_0 ++ (it100_1 ++ (it100_2 ++ (it100_3 ++ (it100_4 ++ (it100_5 ++ (it100_6 ++ (it100_7 ++ (it100_8 ++ (it100_9 ++ (it100_10 ++ (it100_11 ++ (it100_12 ++ (it100_13 ++ (it100_14)))))))))))))) := by decide +kernel
theorem fold100 : FoldOk 100 := ⟨st100_15, by rw [items100]; exact foldP_app _ _ _ _ _ fo100_0 (foldP_app _ _ _ _ _ fo100_1 (foldP_app _ _ _ _ _ fo100_2 (foldP_app _ _ _ _ _ fo100_3 (foldP_app _ _ _ _ _ fo100_4 (foldP_app _ _ _ _ _ fo100_5 (foldP_app _ _ _ _ _ fo100_6 (foldP_app _ _ _ _ _ fo100_7 (foldP_app _ _ _ _ _ fo100_8 (foldP_app _ _ _ _ _ fo100_9 (foldP_app _ _ _ _ _ fo100_10 (foldP_app _ _ _ _ _ fo100_11 (foldP_app _ _ _ _ _ fo100_12 (foldP_app _ _ _ _ _ fo100_13 (fo100_14)))))))))))))), by decide +kernel, by decide +kernel, by decide +kernel, by decide +kernel⟩
end PA

set_option Elab.async false
set_option linter.all false
set_option maxRecDepth 100000
set_option maxHeartbeats 4000000
namespace PA
open PySem PySem.Spec PyProof.Rows L2 Evl
local macro_rules | `(tactic| walk_at "ev") => `(tactic| repeat' (first | (with_reducible exact ev_c) | (with_reducible refine' ev_var ?_) | (show _ = some (some _); rfl) | (with_reducible exact ea_nil) | (with_reducible refine' ea_cons ?_ ?_) | (with_reducible refine' ev_abs ?_) | (with_reducible refine' ev_op ?_ ?_ ?_) | (with_reducible exact rv_I0) | (exact rv_mulL (by decide)) | (exact rv_mulR (by decide)) | (exact rv_div (by decide)) | (exact rv_mod (by decide)) | (exact rv_pow (by decide)) | (with_reducible refine' ev_un ?_ ?_) | (with_reducible exact ru_neg) | (exact rv_eq rfl) | (exact rv_ne rfl) | (with_reducible refine' et_test ?_) | (with_reducible refine' et_B ?_) | (exact ev_c) | (exact rv_I0) | (exact ru_neg) | (exact ea_nil) | (refine' ea_cons ?_ ?_)))
/-! ### the threes, in a set -/
theorem perm_map_inv {α β : Type} {f : α → β} {as bs : List β} (h : as.Perm bs) : ∀ L : List α, bs = L.map f → ∃ is : List α, is.Perm L ∧ as = is.map f := by
  induction h with
  | nil =>
    intro L e
    cases L with
    | nil => exact ⟨[], .nil, rfl⟩
    | cons x r => cases e
  | cons x p ih =>
    intro L e
    cases L with
    | nil => cases e
    | cons y r =>
      obtain ⟨e1, e2⟩ := List.cons.inj e
      obtain ⟨is, p1, p2⟩ := ih r e2
      exact ⟨y :: is, p1.cons y, by rw [List.map_cons, ← e1, p2]⟩
  | swap x y l =>
    intro L e
    match L, e with
    | a :: b :: r, e =>
      obtain ⟨e1, e2⟩ := List.cons.inj e
      obtain ⟨e3, e4⟩ := List.cons.inj e2
      exact ⟨b :: a :: r, .swap a b r, by rw [List.map_cons, List.map_cons, ← e1, ← e3, ← e4]⟩
  | trans p q ih1 ih2 =>
    intro L e
    obtain ⟨is, p1, p2⟩ := ih2 L e
    obtain ⟨js, q1, q2⟩ := ih1 is p2
    exact ⟨js, q1.trans p1, q2⟩
theorem risB_lt : ∀ (r : List Nat) (x y : Nat), risB (x :: r) = true → y ∈ r → x < y
  | [], _, _, _, h => nomatch h
  | z :: r, x, y, h, hy => by
    have h2 : (decide (x < z) && risB (z :: r)) = true := h
    rw [Bool.and_eq_true] at h2
    have lt := of_decide_eq_true h2.1
    rcases List.mem_cons.mp hy with e | e
    · rw [e]; exact lt
    · exact Nat.lt_trans lt (risB_lt r z y h2.2 e)
theorem ris_of : ∀ (l : List Nat), risB l = true → Ris l
  | [], _ => List.Pairwise.nil
  | [x], _ => List.pairwise_singleton _ _
  | x :: y :: r, h => by
    have h2 : (decide (x < y) && risB (y :: r)) = true := h
    rw [Bool.and_eq_true] at h2
    exact List.pairwise_cons.mpr ⟨fun z hz => risB_lt _ x z h hz, ris_of (y :: r) h2.2⟩
theorem every_sorted {l : Int} (hl : Can l) : ∀ ns' : List Int, ns'.Perm (every l l.toNat) → ns'.Pairwise (· ≤ ·) → ns' = (List.range (3 * l + 1 - 1).toNat).map fun (k : Nat) => 1 + (k : Int) := fun ns' hp hs => by
  refine sorted_eq (hp.trans ((List.perm_ext_iff_of_nodup (every_nodup hl _ (by have := hl.1; omega)) (range_nodup 1 _)).mpr fun x => ?_)) hs (range_sorted 1 _)
  rw [every_all hl, range_mem]
  omega
section
variable {P : Program} {w : World} {K : PySem.W.Frag} {mg : Str → Option Value} {base : Heap}
theorem ev_anyN {σ : L2.St} {H : Hp} {te : TE} {n : Nat} (h : EvL te σ H (given n (fun _ => true) (fun _ => .bl false))) : Ev (tCB (rAny K) (tCons te tNil)) σ H (.bl false) :=
  ev_cbL h fun p H1 hp _ H2 e2 _ q => ⟨p, (List.range n).map fun _ => false, rfl, by
    rw [given_all] at hp
    rw [List.map_map]
    exact ex_l e2 (sq_of hp), by
    have : ((List.range n).map fun _ => false).any id = false := by
      rw [List.any_map]
      exact List.any_eq_false.mpr fun _ _ z => nomatch z
    rw [this]
    exact q H2 (Ex.refl H2)⟩
theorem el_sortedN {σ : L2.St} {H : Hp} {te : TE} {ns ms : List Int} (h : EvL te σ H (ns.map V.int)) (hm : ∀ ns' : List Int, ns'.Perm ns → ns'.Pairwise (· ≤ ·) → ns' = ms) : EvL (tCB (rSortedI K) (tCons te tNil)) σ H (ms.map V.int) := fun H1 e Q q =>
  h H1 e _ fun a H2 _ e2 h2 => ⟨a, ns, rfl, sq_of h2, fun ns' p hp hq hn => by
    have := hm ns' hp hq
    subst this
    exact q p _ (fresh_back e2 hn) (e2.trans (Ex.new hn)) upd_same⟩
/-- the threes of all numbers, in a set, in order: the first l ones in some order -/
theorem q_threes {σ : L2.St} {H : Hp} {te : TE} {D : Ends} {tz : TS} {j : Nat} {l : Int} (hl : Can l) (hF : FoldOk l) (h : EvLO te σ H (fun i => .tup ((three l ((i : Int) + 1)).map V.int)) (3 * l).toNat)
    (k : ∀ (is : List Nat) (g : Nat → Addr) (p : Addr) (H1 : Hp), is.Perm (List.range l.toNat) → Ex H H1 → H1 p = some (.lst (is.map fun i => V.ref (g i))) → (∀ i ∈ is, H1 (g i) = some (.tup ((three l ((i : Int) + 1)).map V.int))) → tz D (σ.set j (some (.ref p))) H1) :
    tSeq (tAsg (tCB (rSortP K w) (tCons (tCB (rSetP K w) (tCons te tNil)) tNil)) (gName j)) tz D σ H := by
  have l1 := hl.1
  obtain ⟨S, hf, hr, hfi, hlen, hp⟩ := hF
  refine h H (Ex.refl _) _ fun ps p H1 hp0 e1 h1 hn hk => ?_
  have gd : ∀ i : Nat, i < (3 * l).toNat → ps[i]? = some (ps.getD i 0) := fun i hi => by
    rw [List.getD_eq_getElem?_getD, List.getElem?_eq_getElem (by omega)]
    rfl
  have e_ks : (((List.range (3 * l).toNat).map fun (i : Nat) => (ps.getD i 0, three l ((i : Int) + 1))).map fun q => V.ref q.1) = ps.map V.ref := by
    rw [List.map_map]
    refine List.ext_getElem? fun i => ?_
    rw [List.getElem?_map, List.getElem?_map]
    by_cases hi : i < (3 * l).toNat
    · rw [List.getElem?_eq_getElem (by rw [List.length_range]; exact hi), List.getElem_range, gd i hi]
      rfl
    · rw [List.getElem?_eq_none (by rw [List.length_range]; omega), List.getElem?_eq_none (by omega)]
      rfl
  have tupAt : ∀ (H2 : Hp), Ex H1 H2 → ∀ i : Nat, i < (3 * l).toNat → H2 (ps.getD i 0) = some (.tup ((three l ((i : Int) + 1)).map V.int)) := fun H2 e i hi => e _ _ (hk i _ (gd i hi))
  have wit : withH ((List.range (3 * l).toNat).map fun (i : Nat) => (ps.getD i 0, three l ((i : Int) + 1))) = (itemsOf l).map (mk2 fun i => ps.getD i 0) := by
    unfold withH itemsOf
    rw [List.map_map, List.map_map]
    rfl
  have hfold : foldP rws0 (withH ((List.range (3 * l).toNat).map fun (i : Nat) => (ps.getD i 0, three l ((i : Int) + 1)))) = some (S.map fun i => ps.getD i 0) := by
    rw [wit]
    have := foldP_map (fun i => ps.getD i 0) (itemsOf l) (⟨.fresh 0 0 true, []⟩ : Rws Nat)
    rw [hf] at this
    exact this
  have memS : ∀ x ∈ S.L, ∃ i : Nat, i < (3 * l).toNat ∧ x = (i, hashT (three l ((i : Int) + 1)), three l ((i : Int) + 1)) := fun x hx => by
    rcases foldP_mem _ hf x hx with z | z
    · unfold itemsOf at z
      obtain ⟨i, hi, rfl⟩ := List.mem_map.mp z
      exact ⟨i, List.mem_range.mp hi, rfl⟩
    · cases z
  refine ⟨p, (List.range (3 * l).toNat).map fun (i : Nat) => (ps.getD i 0, three l ((i : Int) + 1)), S.map fun i => ps.getD i 0, rfl, ?_, ?_, hfold, fun a ha => ?_⟩
  · rw [e_ks]
    exact sq_of h1
  · intro q hq
    obtain ⟨i, hi, rfl⟩ := List.mem_map.mp hq
    exact st_of (tupAt H1 (Ex.refl _) i (List.mem_range.mp hi))
  have e2 := Ex.new (o := SetO a (ledW w) (S.map fun i => ps.getD i 0)) ha
  refine ⟨a, S.map fun i => ps.getD i 0, rfl, upd_same, fun q hq => ?_, ris_of _ hr, ?_, ?_, fun ys b py hb => ?_⟩
  · obtain ⟨x, hx, rfl⟩ := List.mem_map.mp (show q ∈ S.L.map (mk2 fun i => ps.getD i 0) from hq)
    obtain ⟨i, hi, rfl⟩ := memS x hx
    refine ⟨st_of (tupAt _ e2 i hi), rfl, ?_⟩
    show three l ((i : Int) + 1) ≠ []
    unfold three
    exact fun z => nomatch z
  · show S.t.fits (S.L.map _).length = true
    rw [List.length_map]
    exact hfi
  · show (S.L.map _).length < 4000
    rw [List.length_map]
    exact hlen
  · have py2 : ys.Perm ((S.L.map (·.1)).map fun i => V.ref (ps.getD i 0)) := by
      have z : (S.map fun i => ps.getD i 0).L.map (fun q => V.ref q.1) = (S.L.map (·.1)).map fun i => V.ref (ps.getD i 0) := by
        show (S.L.map (mk2 fun i => ps.getD i 0)).map (fun q => V.ref q.1) = _
        rw [List.map_map, List.map_map]
        rfl
      rw [← z]
      exact py
    obtain ⟨is, i1, i2⟩ := perm_map_inv py2 _ rfl
    have ip := i1.trans (List.isPerm_iff.mp hp)
    subst i2
    have e3 := Ex.new (o := .lst (is.map fun i => V.ref (ps.getD i 0))) hb
    refine k is (fun i => ps.getD i 0) b _ ip ((e1.trans e2).trans e3) upd_same fun i hi => tupAt _ (e2.trans e3) i ?_
    have := List.mem_range.mp (ip.mem_iff.mp hi)
    omega
/-- sum([list(three) for three in found], []) -/
theorem el_sumT {σ : L2.St} {H : Hp} {te tb : TE} {is : List Nat} {l : Int} (h : EvLO te σ H (fun k => .lst ((three l (((is.getD k 0 : Nat) : Int) + 1)).map V.int)) is.length) (hb : ∀ H1, EvL tb σ H1 []) (h0 : 0 < is.length) (h1 : is.length ≤ 1000) :
    EvL (tCB (rSumL K) (tCons te (tCons tb tNil))) σ H ((is.flatMap fun (i : Nat) => three l ((i : Int) + 1)).map V.int) := fun H1 e Q q => h H1 e _ fun ps p H2 hp e2 h2 hn hk => hb H2 H2 (Ex.refl _) _ fun b H3 hb' e3 h3 => by
  have gd : ∀ i : Nat, i < is.length → ps[i]? = some (ps.getD i 0) := fun i hi => by
    rw [List.getD_eq_getElem?_getD, List.getElem?_eq_getElem (by omega)]
    rfl
  have e_ks : (((List.range is.length).map fun (k : Nat) => (ps.getD k 0, three l (((is.getD k 0 : Nat) : Int) + 1))).map fun q => V.ref q.1) = ps.map V.ref := by
    rw [List.map_map]
    refine List.ext_getElem? fun i => ?_
    rw [List.getElem?_map, List.getElem?_map]
    by_cases hi : i < is.length
    · rw [List.getElem?_eq_getElem (by rw [List.length_range]; exact hi), List.getElem_range, gd i hi]
      rfl
    · rw [List.getElem?_eq_none (by rw [List.length_range]; omega), List.getElem?_eq_none (by omega)]
      rfl
  have e_is : (List.range is.length).map (fun k => is.getD k 0) = is := by
    refine List.ext_getElem? fun i => ?_
    rw [List.getElem?_map]
    by_cases hi : i < is.length
    · rw [List.getElem?_eq_getElem (by rw [List.length_range]; exact hi), List.getElem_range, List.getElem?_eq_getElem hi]
      show some (is.getD i 0) = _
      rw [List.getD_eq_getElem?_getD, List.getElem?_eq_getElem hi]
      rfl
    · rw [List.getElem?_eq_none (by rw [List.length_range]; omega), List.getElem?_eq_none (by omega)]
      rfl
  have e_fl : ((List.range is.length).map fun (k : Nat) => (ps.getD k 0, three l (((is.getD k 0 : Nat) : Int) + 1))).flatMap (·.2) = is.flatMap fun (i : Nat) => three l ((i : Int) + 1) := by
    conv => rhs; rw [← e_is]
    rw [List.flatMap_map, List.flatMap_map]
  have len3 : ∀ js : List Nat, (js.flatMap fun (i : Nat) => three l ((i : Int) + 1)).length = 3 * js.length := fun js => by
    induction js with
    | nil => rfl
    | cons x r ih =>
      rw [List.flatMap_cons, List.length_append, ih, List.length_cons]
      show 3 + _ = _
      omega
  refine ⟨p, b, (List.range is.length).map fun (k : Nat) => (ps.getD k 0, three l (((is.getD k 0 : Nat) : Int) + 1)), rfl, ?_, h3, fun x hx => ?_, ?_, ?_, fun c hc => ?_⟩
  · rw [e_ks]
    exact sq_of (e3 _ _ h2)
  · obtain ⟨i, hi, rfl⟩ := List.mem_map.mp hx
    exact e3 _ _ (hk i _ (gd i (List.mem_range.mp hi)))
  · rw [List.length_map, List.length_range]
    exact h0
  · rw [e_fl, len3]
    omega
  · rw [e_fl]
    exact q c _ (fresh_back (e2.trans e3) hc) ((e2.trans e3).trans (Ex.new hc)) upd_same
/-! ### _law_threes_promises -/
def sp__law_threes_promises : Sp := fun vs H Q _ => ∃ l : Int, vs = [.int l] ∧ Can l ∧ l ≤ 100 ∧ FoldOk l ∧ RetV (.bl true) H Q
theorem ok__law_threes_promises (T : Tx K mg) : FnOk P w K mg base CX0 6 T.a__law_threes_promises T.d__law_threes_promises ["_law_last"] sp__law_threes_promises := by
  refine T.F__law_threes_promises.ok sc__law_threes_promises (fun vs H Q E h => ?_) (fun cdv A outer s H vs Q E hr h => ?_)
  · obtain ⟨l, rfl, _⟩ := h
    rfl
  · obtain ⟨l, rfl, lc, l100, hF, k⟩ := h
    refine ⟨_, (pss_cons (ps_set (i := 1) sc__law_threes_promises.nd rfl (.inl rfl) (pe_callB (r := rSortP K w) (cr_sortP rfl) (by rfl) T.m_sorted bt_sorted (pa_cons (pe_callTy (r := rSetP K w) (cr_setP rfl hr.units) (by rfl) T.m_set bt_set (pa_cons (pe_lc (own := [("_law_number", 3)]) (by rfl) sc__law_threes_promises.nd (pi_range2 (by rfl) T.m_range (pa_cons pe_int (pa_cons (pe_op op_add (pe_op op_mul pe_int (pv 0)) pe_int) pa_nil))) (blkOk_by (own := [("_law_number", 3)]) (N := N__law_threes_promises) (sc := defScope s__law_threes_promises) (by decide +kernel)) (fun _ _ _ _ _ => (pg_name (i := 3) sc__law_threes_promises.nd rfl (Or.inl rfl))) (fun _ _ _ _ _ => pts_nil) (fun _ _ _ _ _ => (pe_callTy (r := rTupS K) call_tuple_of (by rfl) T.m_tuple bt_tuple (pa_cons (pe_call (ok_three_of T) (hr.mono (by decide)) (by rfl) T.g_three_of T.F_three_of.kp T.b_three_of .nil passLN (pa_cons (pv 0) (pa_cons (pv 3) pa_nil))) pa_nil)))) pa_nil)) pa_nil)))
      (pss_cons (ps_if (PW.pt (pw_or (pt_cmpR op_ne (pe_callB (r := rLenS K) call_len_seq (by rfl) T.m_len bt_len (pa_cons (pv 1) pa_nil)) (pv 0) (nomark _)) (pw_or1 (pt_cmpR (r := rNeD K) (op_neD hr.units) (pe_callB (r := rSortedI K) cr_sortedI (by rfl) T.m_sorted bt_sorted (pa_cons (pe_callB (r := rSumL K) (cr_sumL rfl) (by rfl) T.m_sum bt_sum (pa_cons (pe_lc (own := [("_law_three", 2)]) (by rfl) sc__law_threes_promises.nd (pi_list (pv 1)) (blkOk_by (own := [("_law_three", 2)]) (N := N__law_threes_promises) (sc := defScope s__law_threes_promises) (by decide +kernel)) (fun _ _ _ _ _ => (pg_name (i := 2) sc__law_threes_promises.nd rfl (Or.inl rfl))) (fun _ _ _ _ _ => pts_nil) (fun _ _ _ _ _ => (pe_callTy (r := rListS K) call_list_of (by rfl) T.m_list bt_list (pa_cons (pv 2) pa_nil)))) (pa_cons (pe_lst pa_nil) pa_nil))) pa_nil)) (pe_listRg (by rfl) (by rfl) T.m_list (prg_2 (by rfl) T.m_range pe_int (pe_op op_add (pe_op op_mul pe_int (pv 0)) pe_int))) (nomark _))))) (pss_one (ps_ret pe_bl)) pss_nil)
      (pss_cons (ps_for PassesOwn.never rfl (pi_list (pv 1)) (pg_name (i := 2) sc__law_threes_promises.nd rfl (Or.inr rfl))
      (pss_one (ps_if (PW.pt (pw_or (pt_cmpR op_ne (pe_op op_add (pe_ix (r := rIxT K) ix_tup (pv 2) pe_int (fun _ _ => rfl)) (pe_ix (r := rIxT K) ix_tup (pv 2) pe_int (fun _ _ => rfl))) (pe_ix (r := rIxT K) ix_tup (pv 2) pe_int (fun _ _ => rfl)) (nomark _)) (pw_or1 (pt_val (pe_callB (r := rAny K) (cr_any rfl) (by rfl) T.m_any bt_any (pa_cons (pe_lc (own := [("_law_number", 3)]) (by rfl) sc__law_threes_promises.nd (pi_tup (pv 2)) (blkOk_by (own := [("_law_number", 3)]) (N := N__law_threes_promises) (sc := defScope s__law_threes_promises) (by decide +kernel)) (fun _ _ _ _ _ => (pg_name (i := 3) sc__law_threes_promises.nd rfl (Or.inl rfl))) (fun _ _ _ _ _ => pts_nil) (fun _ _ _ _ _ => (pe_cmpR (r := rNeD K) (op_neD hr.units) (pe_callTy (r := rTupS K) call_tuple_of (by rfl) T.m_tuple bt_tuple (pa_cons (pe_call (ok_three_of T) (hr.mono (by decide)) (by rfl) T.g_three_of T.F_three_of.kp T.b_three_of .nil passLN (pa_cons (pv 0) (pa_cons (pv 3) pa_nil))) pa_nil)) (pv 2) (nomark _)))) pa_nil)))))) (pss_one (ps_ret pe_bl)) pss_nil)))
      (pss_one (ps_ret pe_bl))))), ?_⟩
    have l1 := lc.1
    have h3l : (3 * l + 1 - 1).toNat = (3 * l).toNat := by omega
    refine q_threes (w := w) lc hF (h3l ▸ elo_R2 (lo := 1) (n := 3 * l + 1) (fun i => .tup ((three l ((i : Int) + 1)).map V.int)) (by walk_at "ev") (by omega) (fun _ => rfl) fun i H1 e1 hi => eo_u (eu_is (eu_tuple (el_call (vs := [.int l, .int (1 + (i : Int))]) (by walk_at "ev") (v_three_of (T := T) lc (by omega) (by omega)))) (by rw [Int.add_comm]))) fun is g p H1 ip e1 h1 ht => ?_
    have ilen : is.length = l.toNat := by rw [ip.length_eq, List.length_range]
    have ilt : ∀ i ∈ is, i < l.toNat := fun i hi => List.mem_range.mp (ip.mem_iff.mp hi)
    have flp : (is.flatMap fun (i : Nat) => three l ((i : Int) + 1)).Perm (every l l.toNat) := ip.flatMap_right _
    change tSeq _ _ _ [some (.int l), some (.ref p), none, none] _
    refine q_when (b := false) (et_is (et_or (et_test (ev_op (ev_len (ev_var rfl) (sq_of h1)) (ev_var rfl) (rv_ne rfl))) fun _ => et_test (ev_opLL (el_sortedN (el_sumT (is := is) (l := l) (by
        have z := elo_L (K := K) (te := tCB (rListS K) (tCons (tVar 2) tNil)) (tl := tVar 1) (j := 2) (vs := [2]) (σ := [some (.int l), some (.ref p), none, none]) (H := H1) (fun k => .lst ((three l (((is.getD k 0 : Nat) : Int) + 1)).map V.int)) (ev_var rfl) (sq_of h1) (by rw [List.length_map]; omega) (fun _ => rfl) fun i x H2 e2 hi => ?_
        · rw [List.length_map] at z
          exact z
        · rw [List.getElem?_map] at hi
          cases hi' : is[i]? with
          | none => rw [hi'] at hi; cases hi
          | some m =>
            rw [hi'] at hi
            obtain rfl : V.ref (g m) = x := Option.some.inj hi
            have : is.getD i 0 = m := by rw [List.getD_eq_getElem?_getD, hi']; rfl
            rw [this]
            exact eo_l (el_listT (ev_var rfl) (st_of (e2 _ _ (ht m (List.mem_of_getElem? hi')))))) (fun _ => el_lst ea_nil (by decide)) (by omega) (by omega)) (fun ns' hp hs => every_sorted lc ns' (hp.trans flp) hs)) (el_listRg (i := 1) (j := 3 * l + 1) ev_c (by walk_at "ev") (by decide) (by decide) (by omega) (by omega)) fun p q H2 hp hq e2 => rv_neL (sq_of hp) (sq_of hq))) ?_) (fun z => nomatch z) fun _ H2 e2 => ?_
    · rw [List.length_map, ilen, show ((l.toNat : Nat) : Int) = l by omega]
      simp
    refine q_forV (K := K) (ev_var rfl) (sq_of (e2 _ _ h1)) (fun σ' => ∃ y2, σ' = [some (.int l), some (.ref p), y2, none]) ⟨_, rfl⟩ ?_ ?_
    · rintro x σ' H' H0 e' e0 hx ⟨y2, rfl⟩
      obtain ⟨i, hi, rfl⟩ := List.mem_map.mp hx
      have hi2 := ilt i hi
      have h3 := (e2.trans e') _ _ (ht i hi)
      have n1 : 1 ≤ (i : Int) + 1 := by omega
      have n2 : (i : Int) + 1 ≤ 3 * l := by omega
      have ix : ∀ (m : Nat) (v : Int) {H2 : Hp}, Ex H' H2 → (three l ((i : Int) + 1))[m]? = some v → Ev (tOp (rIxT K) (tVar 2) (tC (.int m))) [some (.int l), some (.ref p), some (.ref (g i)), none] H2 (.int v) := fun m v H2 e hv => ev_op (ev_var rfl) ev_c (rv_ixT (st_of (e _ _ h3)) (atI_nat (j := m) (by rw [List.getElem?_map, hv]; rfl)))
      refine s_when (b := false) (et_is (et_or (et_test (ev_op (ev_op (ix 0 _ (Ex.refl _) rfl) (ix 1 _ (Ex.refl _) rfl) rv_I0) (ix 2 _ (Ex.refl _) rfl) (rv_ne rfl))) fun _ => et_B (ev_anyN (n := ((three l ((i : Int) + 1)).map V.int).length) (el_lcT (fun _ => true) (fun _ => .bl false) (ev_var rfl) (st_of h3) (by show 3 ≤ 40000; decide) (fun _ => rfl) (fun _ _ _ _ _ => et_yes) fun m x H5 e5 hm _ => ?_))) ?_) (fun z => nomatch z) fun _ H3 e3 => ⟨⟨_, rfl⟩, e0.trans e3⟩
      · rw [List.getElem?_map] at hm
        cases hm' : (three l ((i : Int) + 1))[m]? with
        | none => rw [hm'] at hm; cases hm
        | some n =>
          rw [hm'] at hm
          obtain rfl : V.int n = x := Option.some.inj hm
          have hin := List.mem_of_getElem? hm'
          obtain ⟨_, b1, b2⟩ := bas_of lc n1 n2 hin
          refine ev_is (ev_opU1 (eu_tuple (el_call (vs := [.int l, .int n]) (by walk_at "ev") (v_three_of (T := T) lc b1 b2))) (fun _ _ => ev_var rfl) fun p H6 hp e6 => rv_neT (st_of hp) (st_of ((e5.trans e6) _ _ h3))) ?_
          rw [three_same lc n1 n2 hin]
          simp
      · have : bas l ((i : Int) + 1) + (l + fst l (bas l ((i : Int) + 1)) + 1) = l + fst l (bas l ((i : Int) + 1)) + 1 + bas l ((i : Int) + 1) := by omega
        rw [this]
        simp
    · rintro σ' H' e' ⟨y2, rfl⟩
      exact s_ret ev_c fun H3 e3 => k H3 (((e1.trans e2).trans e').trans e3)
theorem v__law_threes_promises {l : Int} {H : Hp} (h : Can l) (h1 : l ≤ 100) (hF : FoldOk l) : SpV sp__law_threes_promises [.int l] H (.bl true) := fun _ _ _ q _ => ⟨l, rfl, h, h1, hF, q⟩
end
end PA

set_option Elab.async false
set_option linter.all false
set_option maxRecDepth 100000
set_option maxHeartbeats 4000000
namespace PA
open PySem PySem.Spec PyProof.Rows L2 Evl
local macro_rules | `(tactic| walk_at "ev") => `(tactic| repeat' (first | (with_reducible exact ev_c) | (with_reducible refine' ev_var ?_) | (show _ = some (some _); rfl) | (with_reducible exact ea_nil) | (with_reducible refine' ea_cons ?_ ?_) | (with_reducible refine' ev_abs ?_) | (with_reducible refine' ev_op ?_ ?_ ?_) | (with_reducible exact rv_I0) | (exact rv_mulL (by decide)) | (exact rv_mulR (by decide)) | (exact rv_div (by decide)) | (exact rv_mod (by decide)) | (exact rv_pow (by decide)) | (with_reducible refine' ev_un ?_ ?_) | (with_reducible exact ru_neg) | (exact rv_eq rfl) | (exact rv_ne rfl) | (with_reducible refine' et_test ?_) | (with_reducible refine' et_B ?_) | (exact ev_c) | (exact rv_I0) | (exact ru_neg) | (exact ea_nil) | (refine' ea_cons ?_ ?_)))
section
variable {P : Program} {w : World} {K : PySem.W.Frag} {mg : Str → Option Value} {base : Heap}
theorem s_forG {σ : L2.St} {H : Hp} {te : TE} {D : Ends} {tu : TS} {g : TG} {P : Nat → V → Hp → Prop} {n : Nat} (st : ∀ i, Stab (P i)) (h : EvLJ te σ H P n) (S : L2.St → Prop) (h0 : S σ)
    (hs : ∀ i x σ' H' H0, i < n → Ex H H' → Ex H0 H' → P i x H' → S σ' → g x σ' H' fun σ2 H2 => tu { D with nx := fun σ2 H2 => S σ2 ∧ Ex H0 H2, ct := fun σ2 H2 => S σ2 ∧ Ex H0 H2, bk := D.nx } σ2 H2) (hd : ∀ σ' H', Ex H H' → S σ' → D.nx σ' H') : tFor (iList K te) g tu D σ H :=
  q_forG (tz := fun D => D.nx) (D := D) st h S h0 hs hd
/-! ### _law_judged_promises -/
def JC : List (Int × List Int × Bool) := [(1, [1, 2, 1, 2], true), (2, [1, 2, 1, 2], false), (2, [2, 2, 1, 1], true), (1, [2, 2, 1, 1], false), (0, [1, 2, 1, 2], false), (3, [1, 2, 1, 2], false), (-1, [1, 2, 1, 2], false), (1, [1, 1, 1, 1], true), (2, [1, 1, 1, 1], true), (1, [7, 0], true), (4, rowL 4, false), (1, [1, 1, 5, 1, 9, 9], true), (2, [1, 1, -5, 0, 9, 9], true)]
theorem JC_ok : (JC.all fun c => off c.2.1 c.1 == c.2.2) = true := by decide +kernel
def JCase (v : V) (H : Hp) : Prop := ∃ c ∈ JC, ∃ a b : Addr, v = .ref a ∧ H a = some (.tup [.int c.1, .ref b, .bl c.2.2]) ∧ H b = some (.lst (c.2.1.map V.int))
theorem jcase_stab (i : Nat) : Stab ((fun (_ : Nat) => JCase) i) := fun v H H' e h => by
  obtain ⟨c, hc, a, b, r, h1, h2⟩ := h
  exact ⟨c, hc, a, b, r, e _ _ h1, e _ _ h2⟩
theorem jc_new {σ : L2.St} {H : Hp} {ta tb tc : TE} (n : Int) (ns : List Int) (due : Bool) (hc : (n, ns, due) ∈ JC) (ha : Ev ta σ H (.int n)) (h : EvL tb σ H (ns.map V.int)) (hb : ∀ H1, Ev tc σ H1 (.bl due)) : EvQ (tTup (tCons ta (tCons tb (tCons tc tNil)))) σ H JCase := fun H1 e Q q =>
  ha H1 e _ fun H0 e0 => h H0 (e.trans e0) _ fun b H2 _ e2 h2 => hb H2 H2 (Ex.refl _) _ fun H3 e3 => ⟨sz_of (by show 3 ≤ 100000; decide), fun p hp => q _ _ (((e0.trans e2).trans e3).trans (Ex.new hp)) ⟨(n, ns, due), hc, p, b, rfl, upd_same, Ex.new hp _ _ (e3 _ _ h2)⟩⟩
theorem jc_old {σ : L2.St} {H : Hp} {ta tb tc : TE} {b : Addr} (n : Int) (ns : List Int) (due : Bool) (hc : (n, ns, due) ∈ JC) (ha : Ev ta σ H (.int n)) (h : Ev tb σ H (.ref b)) (hs : H b = some (.lst (ns.map V.int))) (hb : ∀ H1, Ev tc σ H1 (.bl due)) : EvQ (tTup (tCons ta (tCons tb (tCons tc tNil)))) σ H JCase := fun H1 e Q q =>
  ha H1 e _ fun H0 e0 => h H0 (e.trans e0) _ fun H2 e2 => hb H2 H2 (Ex.refl _) _ fun H3 e3 => ⟨sz_of (by show 3 ≤ 100000; decide), fun p hp => q _ _ (((e0.trans e2).trans e3).trans (Ex.new hp)) ⟨(n, ns, due), hc, p, b, rfl, upd_same, Ex.new hp _ _ ((((e.trans e0).trans e2).trans e3) _ _ hs)⟩⟩
def sp__law_judged_promises : Sp := fun vs H Q _ => vs = [] ∧ RetV (.bl true) H Q
theorem ok__law_judged_promises (T : Tx K mg) : FnOk P w K mg base CX0 5 T.a__law_judged_promises T.d__law_judged_promises [] sp__law_judged_promises := by
  refine T.F__law_judged_promises.ok sc__law_judged_promises (fun vs H Q E h => ?_) (fun cdv A outer s H vs Q E hr h => ?_)
  · obtain ⟨rfl, _⟩ := h
    rfl
  · obtain ⟨rfl, k⟩ := h
    refine ⟨_, (pss_cons (ps_set (i := 0) sc__law_judged_promises.nd rfl (.inl rfl) (pe_call (ok_row T) (hr.mono (by decide)) (by rfl) T.g_row T.F_row.kp T.b_row .nil passLN (pa_cons pe_int pa_nil)))
      (pss_cons (ps_set (i := 1) sc__law_judged_promises.nd rfl (.inl rfl) (pe_lst (pa_cons (pe_tup (pa_cons pe_int (pa_cons (pe_lst (pa_cons pe_int (pa_cons pe_int (pa_cons pe_int (pa_cons pe_int pa_nil))))) (pa_cons pe_bl pa_nil)))) (pa_cons (pe_tup (pa_cons pe_int (pa_cons (pe_lst (pa_cons pe_int (pa_cons pe_int (pa_cons pe_int (pa_cons pe_int pa_nil))))) (pa_cons pe_bl pa_nil)))) (pa_cons (pe_tup (pa_cons pe_int (pa_cons (pe_lst (pa_cons pe_int (pa_cons pe_int (pa_cons pe_int (pa_cons pe_int pa_nil))))) (pa_cons pe_bl pa_nil)))) pa_nil)))))
      (pss_cons (ps_set (i := 1) sc__law_judged_promises.nd rfl (.inl rfl) (pe_op op_cat (pv 1) (pe_lst (pa_cons (pe_tup (pa_cons pe_int (pa_cons (pe_lst (pa_cons pe_int (pa_cons pe_int (pa_cons pe_int (pa_cons pe_int pa_nil))))) (pa_cons pe_bl pa_nil)))) (pa_cons (pe_tup (pa_cons pe_int (pa_cons (pe_lst (pa_cons pe_int (pa_cons pe_int (pa_cons pe_int (pa_cons pe_int pa_nil))))) (pa_cons pe_bl pa_nil)))) (pa_cons (pe_tup (pa_cons pe_int (pa_cons (pe_lst (pa_cons pe_int (pa_cons pe_int (pa_cons pe_int (pa_cons pe_int pa_nil))))) (pa_cons pe_bl pa_nil)))) pa_nil))))))
      (pss_cons (ps_set (i := 1) sc__law_judged_promises.nd rfl (.inl rfl) (pe_op op_cat (pv 1) (pe_lst (pa_cons (pe_tup (pa_cons (pe_un un_neg pe_int) (pa_cons (pe_lst (pa_cons pe_int (pa_cons pe_int (pa_cons pe_int (pa_cons pe_int pa_nil))))) (pa_cons pe_bl pa_nil)))) (pa_cons (pe_tup (pa_cons pe_int (pa_cons (pe_lst (pa_cons pe_int (pa_cons pe_int (pa_cons pe_int (pa_cons pe_int pa_nil))))) (pa_cons pe_bl pa_nil)))) (pa_cons (pe_tup (pa_cons pe_int (pa_cons (pe_lst (pa_cons pe_int (pa_cons pe_int (pa_cons pe_int (pa_cons pe_int pa_nil))))) (pa_cons pe_bl pa_nil)))) pa_nil))))))
      (pss_cons (ps_set (i := 1) sc__law_judged_promises.nd rfl (.inl rfl) (pe_op op_cat (pv 1) (pe_lst (pa_cons (pe_tup (pa_cons pe_int (pa_cons (pe_lst (pa_cons pe_int (pa_cons pe_int pa_nil))) (pa_cons pe_bl pa_nil)))) (pa_cons (pe_tup (pa_cons pe_int (pa_cons (pv 0) (pa_cons pe_bl pa_nil)))) (pa_cons (pe_tup (pa_cons pe_int (pa_cons (pe_lst (pa_cons pe_int (pa_cons pe_int (pa_cons pe_int (pa_cons pe_int (pa_cons pe_int (pa_cons pe_int pa_nil))))))) (pa_cons pe_bl pa_nil)))) pa_nil))))))
      (pss_cons (ps_set (i := 1) sc__law_judged_promises.nd rfl (.inl rfl) (pe_op op_cat (pv 1) (pe_lst (pa_cons (pe_tup (pa_cons pe_int (pa_cons (pe_lst (pa_cons pe_int (pa_cons pe_int (pa_cons (pe_un un_neg pe_int) (pa_cons pe_int (pa_cons pe_int (pa_cons pe_int pa_nil))))))) (pa_cons pe_bl pa_nil)))) pa_nil))))
      (pss_cons (ps_for PassesOwn.never rfl (pi_list (pv 1)) (pg_tup rfl (pgs_cons (pg_name (i := 2) sc__law_judged_promises.nd rfl (Or.inl rfl)) (pgs_cons (pg_name (i := 3) sc__law_judged_promises.nd rfl (Or.inl rfl)) (pgs_cons (pg_name (i := 4) sc__law_judged_promises.nd rfl (Or.inl rfl)) pgs_nil))))
      (pss_one (ps_if (pt_cmpR op_ne (pe_meth (pe_make T.n_Off (ok_Off___init__ T) (hr.mono (by decide)) (by rfl) T.g_Off T.b_Off___init__ .nil pass0 (pa_cons (pv 2) pa_nil)) T.i_Off.cl T.s_Off (ok_Off_shows T) (hr.mono (by decide)) T.b_Off_shows .nil pass0 (pa_cons (pv 3) pa_nil) (ht := mcall_of (by first | rfl | exact abase_call (by decide)) (fun _ => rfl))) (pv 4) (nomark _)) (pss_one (ps_ret pe_bl)) pss_nil)))
      (pss_cons (ps_if (PW.pt (pw_or (pt_val (pe_meth (pe_new0 T.n_Good (by rfl) T.g_Good) T.i_Good.cl T.s_Good (ok_Good_shows T) (hr.mono (by decide)) T.b_Good_shows .nil pass0 (pa_cons (pe_lst (pa_cons pe_int (pa_cons pe_int (pa_cons pe_int (pa_cons pe_int pa_nil))))) pa_nil) (ht := mcall_of (by first | rfl | exact abase_call (by decide)) (fun _ => rfl)))) (pw_or (pt_not (pt_val (pe_meth (pe_new0 T.n_Good (by rfl) T.g_Good) T.i_Good.cl T.s_Good (ok_Good_shows T) (hr.mono (by decide)) T.b_Good_shows .nil pass0 (pa_cons (pe_lst (pa_cons pe_int (pa_cons pe_int pa_nil))) pa_nil) (ht := mcall_of (by first | rfl | exact abase_call (by decide)) (fun _ => rfl))))) (pw_or1 (pt_not (pt_val (pe_meth (pe_new0 T.n_Good (by rfl) T.g_Good) T.i_Good.cl T.s_Good (ok_Good_shows T) (hr.mono (by decide)) T.b_Good_shows .nil pass0 (pa_cons (pv 0) pa_nil) (ht := mcall_of (by first | rfl | exact abase_call (by decide)) (fun _ => rfl))))))))) (pss_one (ps_ret pe_bl)) pss_nil)
      (pss_cons (ps_if (PW.pt (pw_or (pt_val (pe_meth (pe_new0 T.n_Good (by rfl) T.g_Good) T.i_Good.cl T.s_Good (ok_Good_shows T) (hr.mono (by decide)) T.b_Good_shows .nil pass0 (pa_cons (pe_op op_cat (pe_slice (r := rSlL K) sl_list (pv 0) po_none (po_some (pe_un un_neg pe_int))) (pe_lst (pa_cons pe_int pa_nil))) pa_nil) (ht := mcall_of (by first | rfl | exact abase_call (by decide)) (fun _ => rfl)))) (pw_or1 (pt_cmpR (r := rNeD K) (op_neD hr.units) (pe_call (ok_mirrored T) (hr.mono (by decide)) (by rfl) T.g_mirrored T.F_mirrored.kp T.b_mirrored .nil passLN (pa_cons (pe_lst (pa_cons pe_int (pa_cons (pe_un un_neg pe_int) pa_nil))) pa_nil)) (pe_lst (pa_cons (pe_un un_neg pe_int) (pa_cons pe_int pa_nil))) (nomark _))))) (pss_one (ps_ret pe_bl)) pss_nil)
      (pss_one (ps_ret (pe_and (pe_callB (r := rIsi K) call_isi (by rfl) T.m_isinstance bt_isinstance (pa_cons (pe_call (ok_told T) (hr.mono (by decide)) (by rfl) T.g_told T.F_told.kp T.b_told .nil passLN (pa_cons (pe_lst (pa_cons pe_int (pa_cons pe_int (pa_cons pe_int (pa_cons pe_int pa_nil))))) pa_nil)) (pa_cons (pe_glob (v := .ref T.c_Off) (by rfl) T.g_Off rfl) pa_nil))) (pe_and (pe_callB (r := rIsi K) call_isi (by rfl) T.m_isinstance bt_isinstance (pa_cons (pe_call (ok_told T) (hr.mono (by decide)) (by rfl) T.g_told T.F_told.kp T.b_told .nil passLN (pa_cons (pe_lst (pa_cons pe_int (pa_cons pe_int pa_nil))) pa_nil)) (pa_cons (pe_glob (v := .ref T.c_Off) (by rfl) T.g_Off rfl) pa_nil))) (pe_one (pe_callB (r := rIsi K) call_isi (by rfl) T.m_isinstance bt_isinstance (pa_cons (pe_call (ok_told T) (hr.mono (by decide)) (by rfl) T.g_told T.F_told.kp T.b_told .nil passLN (pa_cons (pe_lst (pa_cons pe_int (pa_cons pe_int pa_nil))) pa_nil)) (pa_cons (pe_glob (v := .ref T.c_Good) (by rfl) T.g_Good rfl) pa_nil))))))))))))))))), ?_⟩
    have st := jcase_stab
    refine q_asgL (el_call (vs := [.int 4]) (by walk_at "ev") (v_row (T := T) can4 (by decide))) fun fa H1 hfa e1 h1 => ?_
    refine q_asgLI (P := fun _ => JCase) (n := 3) (eli_lst st
      (eai_cons (st 0) (jc_new 1 [1, 2, 1, 2] true (by decide +kernel) (by walk_at "ev") (el_lst (by walk_at "ev") (by show 4 ≤ 100000; decide)) fun _ => ev_c)
      (eai_cons (st 0) (jc_new 2 [1, 2, 1, 2] false (by decide +kernel) (by walk_at "ev") (el_lst (by walk_at "ev") (by show 4 ≤ 100000; decide)) fun _ => ev_c)
      (eai_cons (st 0) (jc_new 2 [2, 2, 1, 1] true (by decide +kernel) (by walk_at "ev") (el_lst (by walk_at "ev") (by show 4 ≤ 100000; decide)) fun _ => ev_c) eai_nil))) (by decide)) fun v2 p2 H2 hp2 e2 h2 l2 r2 => ?_
    refine q_asgLI (P := fun _ => JCase) (n := v2.length + 3) (eli_cat (P := fun _ => JCase) (P' := fun _ => JCase) st st (elj_old st (ev_var rfl) h2 r2) (elj_new (eli_lst st
      (eai_cons (st 0) (jc_new 1 [2, 2, 1, 1] false (by decide +kernel) (by walk_at "ev") (el_lst (by walk_at "ev") (by show 4 ≤ 100000; decide)) fun _ => ev_c)
      (eai_cons (st 0) (jc_new 0 [1, 2, 1, 2] false (by decide +kernel) (by walk_at "ev") (el_lst (by walk_at "ev") (by show 4 ≤ 100000; decide)) fun _ => ev_c)
      (eai_cons (st 0) (jc_new 3 [1, 2, 1, 2] false (by decide +kernel) (by walk_at "ev") (el_lst (by walk_at "ev") (by show 4 ≤ 100000; decide)) fun _ => ev_c) eai_nil))) (by decide))) (by omega) (fun _ _ _ _ h => h) (fun _ _ _ h => h)) fun v3 p3 H3 hp3 e3 h3 l3 r3 => ?_
    refine q_asgLI (P := fun _ => JCase) (n := v3.length + 3) (eli_cat (P := fun _ => JCase) (P' := fun _ => JCase) st st (elj_old st (ev_var rfl) h3 r3) (elj_new (eli_lst st
      (eai_cons (st 0) (jc_new (-1) [1, 2, 1, 2] false (by decide +kernel) (by walk_at "ev") (el_lst (by walk_at "ev") (by show 4 ≤ 100000; decide)) fun _ => ev_c)
      (eai_cons (st 0) (jc_new 1 [1, 1, 1, 1] true (by decide +kernel) (by walk_at "ev") (el_lst (by walk_at "ev") (by show 4 ≤ 100000; decide)) fun _ => ev_c)
      (eai_cons (st 0) (jc_new 2 [1, 1, 1, 1] true (by decide +kernel) (by walk_at "ev") (el_lst (by walk_at "ev") (by show 4 ≤ 100000; decide)) fun _ => ev_c) eai_nil))) (by decide))) (by omega) (fun _ _ _ _ h => h) (fun _ _ _ h => h)) fun v4 p4 H4 hp4 e4 h4 l4 r4 => ?_
    have e14 := (e2.trans e3).trans e4
    refine q_asgLI (P := fun _ => JCase) (n := v4.length + 3) (eli_cat (P := fun _ => JCase) (P' := fun _ => JCase) st st (elj_old st (ev_var rfl) h4 r4) (elj_new (eli_lst st
      (eai_cons (st 0) (jc_new 1 [7, 0] true (by decide +kernel) (by walk_at "ev") (el_lst (by walk_at "ev") (by show 2 ≤ 100000; decide)) fun _ => ev_c)
      (eai_cons (st 0) (jc_old 4 (rowL 4) false (by decide +kernel) (by walk_at "ev") (ev_var rfl) (e14 _ _ h1) fun _ => ev_c)
      (eai_cons (st 0) (jc_new 1 [1, 1, 5, 1, 9, 9] true (by decide +kernel) (by walk_at "ev") (el_lst (by walk_at "ev") (by show 6 ≤ 100000; decide)) fun _ => ev_c) eai_nil))) (by decide))) (by omega) (fun _ _ _ _ h => h) (fun _ _ _ h => h)) fun v5 p5 H5 hp5 e5 h5 l5 r5 => ?_
    refine q_asgLI (P := fun _ => JCase) (n := v5.length + 1) (eli_cat (P := fun _ => JCase) (P' := fun _ => JCase) st st (elj_old st (ev_var rfl) h5 r5) (elj_new (eli_lst st
      (eai_cons (st 0) (jc_new 2 [1, 1, -5, 0, 9, 9] true (by decide +kernel) (by walk_at "ev") (el_lst (by walk_at "ev") (by show 6 ≤ 100000; decide)) fun _ => ev_c) eai_nil) (by decide))) (by omega) (fun _ _ _ _ h => h) (fun _ _ _ h => h)) fun v6 p6 H6 hp6 e6 h6 l6 r6 => ?_
    have e16 := (e14.trans e5).trans e6
    change tSeq _ _ _ [some (.ref fa), some (.ref p6), none, none, none] _
    refine q_forG (K := K) (P := fun _ => JCase) (n := v6.length) st (elj_old st (ev_var rfl) h6 r6) (fun σ' => ∃ y2 y3 y4, σ' = [some (.ref fa), some (.ref p6), y2, y3, y4]) ⟨_, _, _, rfl⟩ ?_ ?_
    · rintro i x σ' H' H0 hi e' e0 ⟨⟨n, ns, due⟩, hc, a, b, rfl, ha, hb⟩ ⟨y2, y3, y4, rfl⟩
      have ok := eq_of_beq (List.all_eq_true.mp JC_ok _ hc)
      dsimp only at ok ha hb
      refine g_three (st_of ha) ?_
      refine s_when (b := false) (et_is (et_test (ev_op (ev_methN (ei_make (f := "number") (ea_cons (ev_var rfl) ea_nil)) rfl (vs := [.ref b]) (ea_cons (ev_var rfl) ea_nil) fun p dx H7 e7 hp => v_Off_shows (T := T) (n := n) hp (sq_of (e7 _ _ hb))) (ev_var rfl) (rv_ne rfl))) (by rw [ok]; simp)) (fun z => nomatch z) fun _ H7 e7 => ⟨⟨_, _, _, rfl⟩, e0.trans e7⟩
    · rintro σ' H7 e7 ⟨y2, y3, y4, rfl⟩
      have h7 := (e16.trans e7) _ _ h1
      have gs : ∀ {σ : L2.St} {H : Hp} {te : TE} {E : XK} (ns : List Int), EvL te σ H (ns.map V.int) → ns.length ≤ 1000 → Ev (tMeth T.c_Good "shows" (sp_Good_shows K) [] E (tNew T.c_Good) (tCons te tNil)) σ H (.bl (good ns)) := fun ns h hl => ev_methL ei_new rfl h fun p dx q H1 _ hp hq => v_Good_shows (sq_of hq) hl
      refine q_when (b := false) (et_is (et_or (et_B (gs [1, 2, 1, 2] (el_lst (by walk_at "ev") (by show 4 ≤ 100000; decide)) (by decide))) fun _ => et_or (et_not (et_B (gs [1, 1] (el_lst (by walk_at "ev") (by show 2 ≤ 100000; decide)) (by decide)))) fun _ => et_not (et_B (ev_methN ei_new rfl (vs := [.ref fa]) (ea_cons (ev_var rfl) ea_nil) fun p dx H8 e8 hp => v_Good_shows (sq_of (e8 _ _ h7)) (by rw [rowL_len]; decide)))) (by decide +kernel)) (fun z => nomatch z) fun _ H8 e8 => ?_
      have h8 := e8 _ _ h7
      refine q_when (b := false) (et_is (et_or (et_B (gs ((rowL 4).take 7 ++ [0]) (el_is (el_cat (at_new (el_sl (ev_var rfl) eo_none (eo_some (i := -1) (by walk_at "ev")) (sq_of h8))) (at_new (el_lst (vs := [.int 0]) (by walk_at "ev") (by show 1 ≤ 100000; decide))) ?_) ?_) (by decide +kernel))) fun _ => et_test (ev_opLL (xs := (([3, -1] : List Int).reverse).map V.int) (ys := ([-1, 3] : List Int).map V.int) (el_callL (xs := ([3, -1] : List Int).map V.int) (el_lst (by walk_at "ev") (by show 2 ≤ 100000; decide)) fun p H9 _ hp => v_mirrored (T := T) (ns := [3, -1]) (sq_of hp) (by decide)) (el_lst (by walk_at "ev") (by show 2 ≤ 100000; decide)) fun p q H9 hp hq e9 => rv_neL (sq_of hp) (sq_of hq))) (by decide +kernel)) (fun z => nomatch z) fun _ H9 e9 => ?_
      · have : (rowL 4).map V.int = ((rowL 4).take 7).map V.int ++ [V.int ((rowL 4).getD 7 0)] := by decide +kernel
        rw [this, cut_init]
        decide +kernel
      · have : (rowL 4).map V.int = ((rowL 4).take 7).map V.int ++ [V.int ((rowL 4).getD 7 0)] := by decide +kernel
        rw [this, cut_init, List.map_append]
        rfl
      refine s_ret (v := .bl true) (ev_is (ev_andV (ev_isOff (T := T) [1, 1, 1, 1] (eq_toldL (el_lst (by walk_at "ev") (by show 4 ≤ 100000; decide)) (by decide))) fun _ => ev_andV (ev_isOff (T := T) [5, 5] (eq_toldL (el_lst (by walk_at "ev") (by show 2 ≤ 100000; decide)) (by decide))) fun _ => ev_isGood (T := T) [1, 1] (eq_toldL (el_lst (by walk_at "ev") (by show 2 ≤ 100000; decide)) (by decide))) (by decide +kernel)) fun HA eA => k HA (((((e1.trans e16).trans e7).trans e8).trans e9).trans eA)
theorem v__law_judged_promises {H : Hp} : SpV sp__law_judged_promises [] H (.bl true) := fun _ _ _ q _ => ⟨rfl, q⟩
/-! ### _law_promises_right -/
def PCase (v : V) (H : Hp) : Prop := ∃ (n : Int) (b : Bool) (a : Addr), 1 ≤ n ∧ b = decide (n % 4 < 2) ∧ v = .ref a ∧ H a = some (.tup [.int n, .bl b])
theorem pcase_stab (i : Nat) : Stab ((fun (_ : Nat) => PCase) i) := fun v H H' e h => by
  obtain ⟨n, b, a, h1, h2, r, h3⟩ := h
  exact ⟨n, b, a, h1, h2, r, e _ _ h3⟩
theorem pc_new {σ : L2.St} {H : Hp} {ta tb : TE} (n : Int) (b : Bool) (h1 : 1 ≤ n) (h2 : b = decide (n % 4 < 2)) (ha : Ev ta σ H (.int n)) (hb : Ev tb σ H (.bl b)) : EvQ (tTup (tCons ta (tCons tb tNil))) σ H PCase := eq_tup (eu_tup (ea_cons ha (ea_cons hb ea_nil)) (by show 2 ≤ 100000; decide)) fun p H1 hp => ⟨n, b, p, h1, h2, rfl, hp⟩
def lasts : List Int := [1, 4, 5, 8, 9, 12, 13, 16, 17, 20, 97, 100]
theorem lasts_ok {l : Int} (h : l ∈ lasts) : Can l ∧ l ≤ 100 ∧ FoldOk l := by
  simp only [lasts, List.mem_cons, List.not_mem_nil, or_false] at h
  unfold Can
  rcases h with rfl | rfl | rfl | rfl | rfl | rfl | rfl | rfl | rfl | rfl | rfl | rfl
  · exact ⟨by decide, by decide, fold1⟩
  · exact ⟨by decide, by decide, fold4⟩
  · exact ⟨by decide, by decide, fold5⟩
  · exact ⟨by decide, by decide, fold8⟩
  · exact ⟨by decide, by decide, fold9⟩
  · exact ⟨by decide, by decide, fold12⟩
  · exact ⟨by decide, by decide, fold13⟩
  · exact ⟨by decide, by decide, fold16⟩
  · exact ⟨by decide, by decide, fold17⟩
  · exact ⟨by decide, by decide, fold20⟩
  · exact ⟨by decide, by decide, fold97⟩
  · exact ⟨by decide, by decide, fold100⟩
def LastV (v : V) (_ : Hp) : Prop := ∃ l ∈ lasts, v = .int l
theorem lastV_stab (i : Nat) : Stab ((fun (_ : Nat) => LastV) i) := fun _ _ _ _ h => h
theorem lv_new {σ : L2.St} {H : Hp} (l : Int) (h : l ∈ lasts) : EvQ (tC (.int l)) σ H LastV := eq_val ev_c fun _ _ => ⟨l, h, rfl⟩
def NumV (l : Int) (v : V) (_ : Hp) : Prop := ∃ n : Int, v = .int n ∧ 1 ≤ n ∧ n ≤ l
theorem numV_stab (l : Int) (i : Nat) : Stab ((fun (_ : Nat) => NumV l) i) := fun _ _ _ _ h => h
def GreatV (v : V) (_ : Hp) : Prop := ∃ l : Int, v = .int l ∧ Can l ∧ 1000 ≤ l
theorem greatV_stab (i : Nat) : Stab ((fun (_ : Nat) => GreatV) i) := fun _ _ _ _ h => h
def sp__law_promises_right : Sp := fun vs H Q _ => vs = [] ∧ RetV (.bl true) H Q
theorem ok__law_promises_right (T : Tx K mg) : FnOk P w K mg base CX0 7 T.a__law_promises_right T.d__law_promises_right [] sp__law_promises_right := by
  refine T.F__law_promises_right.ok sc__law_promises_right (fun vs H Q E h => ?_) (fun cdv A outer s H vs Q E hr h => ?_)
  · obtain ⟨rfl, _⟩ := h
    rfl
  · obtain ⟨rfl, k⟩ := h
    refine ⟨_, (pss_cons (ps_set (i := 0) sc__law_promises_right.nd rfl (.inl rfl) (pe_op op_pow pe_int pe_int))
      (pss_cons (ps_set (i := 1) sc__law_promises_right.nd rfl (.inl rfl) (pe_lst (pa_cons (pe_tup (pa_cons pe_int (pa_cons pe_bl pa_nil))) (pa_cons (pe_tup (pa_cons pe_int (pa_cons pe_bl pa_nil))) (pa_cons (pe_tup (pa_cons pe_int (pa_cons pe_bl pa_nil))) (pa_cons (pe_tup (pa_cons pe_int (pa_cons pe_bl pa_nil))) (pa_cons (pe_tup (pa_cons pe_int (pa_cons pe_bl pa_nil))) (pa_cons (pe_tup (pa_cons pe_int (pa_cons pe_bl pa_nil))) (pa_cons (pe_tup (pa_cons pe_int (pa_cons pe_bl pa_nil))) pa_nil)))))))))
      (pss_cons (ps_set (i := 1) sc__law_promises_right.nd rfl (.inl rfl) (pe_op op_cat (pv 1) (pe_lst (pa_cons (pe_tup (pa_cons pe_int (pa_cons pe_bl pa_nil))) (pa_cons (pe_tup (pa_cons (pv 0) (pa_cons pe_bl pa_nil))) (pa_cons (pe_tup (pa_cons (pe_op op_add (pv 0) pe_int) (pa_cons pe_bl pa_nil))) (pa_cons (pe_tup (pa_cons (pe_op op_add (pv 0) pe_int) (pa_cons pe_bl pa_nil))) pa_nil)))))))
      (pss_cons (ps_for PassesOwn.never rfl (pi_list (pv 1)) (pg_tup rfl (pgs_cons (pg_name (i := 2) sc__law_promises_right.nd rfl (Or.inr rfl)) (pgs_cons (pg_name (i := 3) sc__law_promises_right.nd rfl (Or.inl rfl)) pgs_nil)))
      (pss_one (ps_if (PW.pt (pw_or (pt_cmpR op_ne (pe_callB (r := rIsi K) call_isi (by rfl) T.m_isinstance bt_isinstance (pa_cons (pe_call (ok_can T) (hr.mono (by decide)) (by rfl) T.g_can T.F_can.kp T.b_can .nil passLN (pa_cons (pv 2) pa_nil)) (pa_cons (pe_glob (v := .ref T.c_Can) (by rfl) T.g_Can rfl) pa_nil))) (pv 3) (nomark _)) (pw_or (pt_cmpR op_ne (pe_meth (pe_new0 T.n_Can (by rfl) T.g_Can) T.i_Can.cl T.s_Can (ok_Can_shows T) (hr.mono (by decide)) T.b_Can_shows .nil pass0 (pa_cons (pv 2) pa_nil) (ht := mcall_of (by first | rfl | exact abase_call (by decide)) (fun _ => rfl))) (pv 3) (nomark _)) (pw_or1 (pt_cmpR op_eq (pe_meth (pe_new0 T.n_Barred (by rfl) T.g_Barred) T.i_Barred.cl T.s_Barred (ok_Barred_shows T) (hr.mono (by decide)) T.b_Barred_shows .nil pass0 (pa_cons (pv 2) pa_nil) (ht := mcall_of (by first | rfl | exact abase_call (by decide)) (fun _ => rfl))) (pv 3) (nomark _)))))) (pss_one (ps_ret pe_bl)) pss_nil)))
      (pss_cons (ps_if (PW.pt (pw_or (pt_cmpR (r := rNeD K) (op_neD hr.units) (pe_call (ok_row T) (hr.mono (by decide)) (by rfl) T.g_row T.F_row.kp T.b_row .nil passLN (pa_cons pe_int pa_nil)) (pe_lst (pa_cons pe_int (pa_cons pe_int pa_nil))) (nomark _)) (pw_or (pt_cmpR (r := rNeD K) (op_neD hr.units) (pe_call (ok_places_of T) (hr.mono (by decide)) (by rfl) T.g_places_of T.F_places_of.kp T.b_places_of .nil passLN (pa_cons pe_int (pa_cons pe_int pa_nil))) (pe_tup (pa_cons pe_int (pa_cons pe_int pa_nil))) (nomark _)) (pw_or1 (pt_cmpR (r := rNeD K) (op_neD hr.units) (pe_call (ok_three_of T) (hr.mono (by decide)) (by rfl) T.g_three_of T.F_three_of.kp T.b_three_of .nil passLN (pa_cons pe_int (pa_cons pe_int pa_nil))) (pe_lst (pa_cons pe_int (pa_cons pe_int (pa_cons pe_int pa_nil)))) (nomark _)))))) (pss_one (ps_ret pe_bl)) pss_nil)
      (pss_cons (ps_for PassesOwn.never rfl (pi_list (pe_lst (pa_cons pe_int (pa_cons pe_int (pa_cons pe_int (pa_cons pe_int (pa_cons pe_int (pa_cons pe_int (pa_cons pe_int (pa_cons pe_int (pa_cons pe_int (pa_cons pe_int (pa_cons pe_int (pa_cons pe_int pa_nil)))))))))))))) (pg_name (i := 2) sc__law_promises_right.nd rfl (Or.inr rfl))
      (pss_cons (ps_set (i := 4) sc__law_promises_right.nd rfl (.inl rfl) (pe_call (ok_row T) (hr.mono (by decide)) (by rfl) T.g_row T.F_row.kp T.b_row .nil passLN (pa_cons (pv 2) pa_nil)))
      (pss_cons (ps_if (PW.pt (pw_or (pt_not (pt_val (pe_callB (r := rIsi K) call_isi (by rfl) T.m_isinstance bt_isinstance (pa_cons (pe_call (ok_told T) (hr.mono (by decide)) (by rfl) T.g_told T.F_told.kp T.b_told .nil passLN (pa_cons (pv 4) pa_nil)) (pa_cons (pe_glob (v := .ref T.c_Good) (by rfl) T.g_Good rfl) pa_nil))))) (pw_or1 (pt_not (pt_val (pe_callB (r := rIsi K) call_isi (by rfl) T.m_isinstance bt_isinstance (pa_cons (pe_call (ok_told T) (hr.mono (by decide)) (by rfl) T.g_told T.F_told.kp T.b_told .nil passLN (pa_cons (pe_call (ok_mirrored T) (hr.mono (by decide)) (by rfl) T.g_mirrored T.F_mirrored.kp T.b_mirrored .nil passLN (pa_cons (pv 4) pa_nil)) pa_nil)) (pa_cons (pe_glob (v := .ref T.c_Good) (by rfl) T.g_Good rfl) pa_nil)))))))) (pss_one (ps_ret pe_bl)) pss_nil)
      (pss_cons (ps_if (pt_cmpR op_ne (pe_callB (r := rLenS K) call_len_seq (by rfl) T.m_len bt_len (pa_cons (pv 4) pa_nil)) (pe_op op_mul pe_int (pv 2)) (nomark _)) (pss_one (ps_ret pe_bl)) pss_nil)
      (pss_cons (ps_for PassesOwn.never rfl (pi_list (pe_lst (pa_cons pe_int (pa_cons (pe_op op_add (pe_op op_fdiv (pe_op op_mul pe_int (pv 2)) pe_int) pe_int) (pa_cons (pv 2) pa_nil))))) (pg_name (i := 5) sc__law_promises_right.nd rfl (Or.inl rfl))
      (pss_cons (ps_asg (pe_call (ok_places_of T) (hr.mono (by decide)) (by rfl) T.g_places_of T.F_places_of.kp T.b_places_of .nil passLN (pa_cons (pv 2) (pa_cons (pv 5) pa_nil))) (pg_tup rfl (pgs_cons (pg_name (i := 6) sc__law_promises_right.nd rfl (Or.inl rfl)) (pgs_cons (pg_name (i := 7) sc__law_promises_right.nd rfl (Or.inl rfl)) pgs_nil))))
      (pss_one (ps_if (PW.pt (pw_or (pt_cmpR op_ne (pe_ix (r := rIxL K) ix_list (pv 4) (pv 6) (fun _ _ => rfl)) (pv 5) (nomark _)) (pw_or (pt_cmpR op_ne (pe_ix (r := rIxL K) ix_list (pv 4) (pv 7) (fun _ _ => rfl)) (pv 5) (nomark _)) (pw_or1 (pt_cmpR op_ne (pe_op op_sub (pv 7) (pv 6)) (pv 5) (nomark _)))))) (pss_one (ps_ret pe_bl)) pss_nil))))
      (pss_one (ps_if (PW.pt (pw_or (pt_cmpR (r := rNeD K) (op_neD hr.units) (pe_lc (own := [("_law_place", 8)]) (by rfl) sc__law_promises_right.nd (pi_range1 (by rfl) T.m_range (pa_cons (pe_op op_mul pe_int (pv 2)) pa_nil)) (blkOk_by (own := [("_law_place", 8)]) (N := N__law_promises_right) (sc := defScope s__law_promises_right) (by decide +kernel)) (fun _ _ _ _ _ => (pg_name (i := 8) sc__law_promises_right.nd rfl (Or.inl rfl))) (fun _ _ _ _ _ => pts_nil) (fun _ _ _ _ _ => (pe_call (ok_number_at T) (hr.mono (by decide)) (by rfl) T.g_number_at T.F_number_at.kp T.b_number_at .nil passLN (pa_cons (pv 2) (pa_cons (pv 8) pa_nil))))) (pv 4) (nomark _)) (pw_or1 (pt_not (pt_val (pe_call (ok__law_threes_promises T) (hr.mono (by decide)) (by rfl) T.g__law_threes_promises T.F__law_threes_promises.kp T.b__law_threes_promises .nil pass0 (pa_cons (pv 2) pa_nil))))))) (pss_one (ps_ret pe_bl)) pss_nil)))))))
      (pss_cons (ps_for PassesOwn.never rfl (pi_list (pe_lst (pa_cons (pv 0) (pa_cons (pe_op op_add (pv 0) pe_int) (pa_cons (pe_op op_add (pe_op op_mul pe_int (pv 0)) pe_int) pa_nil))))) (pg_name (i := 2) sc__law_promises_right.nd rfl (Or.inr rfl))
      (pss_one (ps_for PassesOwn.never rfl (pi_list (pe_lst (pa_cons pe_int (pa_cons pe_int (pa_cons (pe_op op_fdiv (pv 2) pe_int) (pa_cons (pe_op op_sub (pv 2) pe_int) (pa_cons (pv 2) pa_nil))))))) (pg_name (i := 5) sc__law_promises_right.nd rfl (Or.inl rfl))
      (pss_cons (ps_asg (pe_call (ok_places_of T) (hr.mono (by decide)) (by rfl) T.g_places_of T.F_places_of.kp T.b_places_of .nil passLN (pa_cons (pv 2) (pa_cons (pv 5) pa_nil))) (pg_tup rfl (pgs_cons (pg_name (i := 6) sc__law_promises_right.nd rfl (Or.inl rfl)) (pgs_cons (pg_name (i := 7) sc__law_promises_right.nd rfl (Or.inl rfl)) pgs_nil))))
      (pss_cons (ps_if (PW.pt (pw_or (pt_cmpR op_ne (pe_op op_sub (pv 7) (pv 6)) (pv 5) (nomark _)) (pw_or (pt_cmpR op_ne (pe_call (ok_number_at T) (hr.mono (by decide)) (by rfl) T.g_number_at T.F_number_at.kp T.b_number_at .nil passLN (pa_cons (pv 2) (pa_cons (pv 6) pa_nil))) (pv 5) (nomark _)) (pw_or1 (pt_cmpR op_ne (pe_call (ok_number_at T) (hr.mono (by decide)) (by rfl) T.g_number_at T.F_number_at.kp T.b_number_at .nil passLN (pa_cons (pv 2) (pa_cons (pv 7) pa_nil))) (pv 5) (nomark _)))))) (pss_one (ps_ret pe_bl)) pss_nil)
      (pss_one (ps_if (pt_not (pt_chainN pe_int (pch_link op_le (pv 6) (pch_link op_lt (pv 7) (pch_last op_lt (pe_op op_mul pe_int (pv 2))))))) (pss_one (ps_ret pe_bl)) pss_nil)))))))
      (pss_one (ps_ret (pe_call0 (ok__law_judged_promises T) (hr.mono (by decide)) (by rfl) T.g__law_judged_promises T.F__law_judged_promises.kp T.b__law_judged_promises .nil pass0)))))))))), ?_⟩
    have e10 : (10 : Int) ^ (40 : Int).toNat = 10000000000000000000000000000000000000000 := by decide +kernel
    refine q_asg (v := .int 10000000000000000000000000000000000000000) (ev_is (by walk_at "ev") (by rw [e10])) fun H1 e1 => ?_
    have g0 : (1000 : Int) ≤ 10000000000000000000000000000000000000000 := by decide
    have g4 : (10000000000000000000000000000000000000000 : Int) % 4 = 0 := by decide
    generalize (10000000000000000000000000000000000000000 : Int) = G at g0 g4 ⊢
    clear e10
    have st := pcase_stab
    refine q_asgLI (P := fun _ => PCase) (n := 7) (eli_lst st
      (eai_cons (st 0) (pc_new 1 true (by decide) (by decide) ev_c ev_c) (eai_cons (st 0) (pc_new 2 false (by decide) (by decide) ev_c ev_c) (eai_cons (st 0) (pc_new 3 false (by decide) (by decide) ev_c ev_c) (eai_cons (st 0) (pc_new 4 true (by decide) (by decide) ev_c ev_c)
      (eai_cons (st 0) (pc_new 5 true (by decide) (by decide) ev_c ev_c) (eai_cons (st 0) (pc_new 6 false (by decide) (by decide) ev_c ev_c) (eai_cons (st 0) (pc_new 7 false (by decide) (by decide) ev_c ev_c) eai_nil))))))) (by decide)) fun v2 p2 H2 hp2 e2 h2 l2 r2 => ?_
    refine q_asgLI (P := fun _ => PCase) (n := v2.length + 4) (eli_cat (P := fun _ => PCase) (P' := fun _ => PCase) st st (elj_old st (ev_var rfl) h2 r2) (elj_new (eli_lst st
      (eai_cons (st 0) (pc_new 8 true (by decide) (by decide) ev_c ev_c) (eai_cons (st 0) (pc_new G true (by omega) (decide_eq_true (by omega)).symm (ev_var rfl) ev_c) (eai_cons (st 0) (pc_new (G + 1) true (by omega) (decide_eq_true (by omega)).symm (by walk_at "ev") ev_c)
      (eai_cons (st 0) (pc_new (G + 2) false (by omega) (decide_eq_false (by omega)).symm (by walk_at "ev") ev_c) eai_nil)))) (by decide))) (by omega) (fun _ _ _ _ h => h) (fun _ _ _ h => h)) fun v3 p3 H3 hp3 e3 h3 l3 r3 => ?_
    have e03 := (e1.trans e2).trans e3
    change tSeq _ _ _ [some (.int G), some (.ref p3), none, none, none, none, none, none, none] _
    refine q_forG (K := K) (P := fun _ => PCase) (n := v3.length) st (elj_old st (ev_var rfl) h3 r3) (fun σ' => ∃ y2 y3, σ' = [some (.int G), some (.ref p3), y2, y3, none, none, none, none, none]) ⟨_, _, rfl⟩ ?_ ?_
    · rintro i x σ' H' H0 hi e' e0 ⟨n, b, a, n1, hb, rfl, ha⟩ ⟨y2, y3, rfl⟩
      refine g_two (st_of ha) ?_
      refine s_when (b := false) (et_is (et_or (et_test (ev_op (ev_isCan (T := T) (eq_can (T := T) (n := n) (by walk_at "ev") n1) T.kit_Can_Can T.kit_Barred_Can) (ev_var rfl) (rv_ne rfl))) fun _ => et_or (et_test (ev_op (ev_methN (ei_new (C := T.c_Can)) rfl (vs := [.int n]) (by walk_at "ev") fun p dx H1 _ _ => v_Can_shows) (ev_var rfl) (rv_ne rfl))) fun _ => et_test (ev_op (ev_methN (ei_new (C := T.c_Barred)) rfl (vs := [.int n]) (by walk_at "ev") fun p dx H1 _ _ => v_Barred_shows) (ev_var rfl) (rv_eq rfl))) (by rw [hb]; cases decide (n % 4 < 2) <;> rfl)) (fun z => nomatch z) fun _ H7 e7 => ⟨⟨_, _, rfl⟩, e0.trans e7⟩
    rintro σ' H4 e4 ⟨y2, y3, rfl⟩
    refine q_when (b := false) (et_is (et_or (et_test (ev_opLL (ys := ([1, 1] : List Int).map V.int) (el_call (vs := [.int 1]) (by walk_at "ev") (v_row (T := T) can1 (by decide))) (el_lst (by walk_at "ev") (by show 2 ≤ 100000; decide)) fun p q H5 hp hq e5 => rv_neL (sq_of hp) (sq_of hq))) fun _ =>
      et_or (et_test (ev_opUU (xs := ([fst 1 1, fst 1 1 + 1] : List Int).map V.int) (ys := ([0, 1] : List Int).map V.int) (eu_call (vs := [.int 1, .int 1]) (by walk_at "ev") (v_places_of (T := T) can1 (by decide) (by decide))) (eu_tup (by walk_at "ev") (by show 2 ≤ 100000; decide)) fun p q H5 hp hq e5 => rv_neT (st_of hp) (st_of hq))) fun _ =>
      et_test (ev_opLL (ys := ([1, 2, 3] : List Int).map V.int) (el_call (vs := [.int 1, .int 2]) (by walk_at "ev") (v_three_of (T := T) can1 (by decide) (by decide))) (el_lst (by walk_at "ev") (by show 3 ≤ 100000; decide)) fun p q H5 hp hq e5 => rv_neL (sq_of hp) (sq_of hq))) (by decide +kernel)) (fun z => nomatch z) fun _ H5 e5 => ?_
    have e05 := (e03.trans e4).trans e5
    have ls := lastV_stab
    refine q_forG (K := K) (P := fun _ => LastV) (n := 12) ls (elj_new (eli_lst ls (eai_cons (ls 0) (lv_new 1 (by decide)) (eai_cons (ls 0) (lv_new 4 (by decide)) (eai_cons (ls 0) (lv_new 5 (by decide)) (eai_cons (ls 0) (lv_new 8 (by decide)) (eai_cons (ls 0) (lv_new 9 (by decide)) (eai_cons (ls 0) (lv_new 12 (by decide)) (eai_cons (ls 0) (lv_new 13 (by decide)) (eai_cons (ls 0) (lv_new 16 (by decide)) (eai_cons (ls 0) (lv_new 17 (by decide)) (eai_cons (ls 0) (lv_new 20 (by decide)) (eai_cons (ls 0) (lv_new 97 (by decide)) (eai_cons (ls 0) (lv_new 100 (by decide)) eai_nil)))))))))))) (by decide)))
      (fun σ' => ∃ y2 y4 y5 y6 y7, σ' = [some (.int G), some (.ref p3), y2, y3, y4, y5, y6, y7, none]) ⟨_, _, _, _, _, rfl⟩ ?_ ?_
    · rintro i x σ' H' H0 hi e' e0 ⟨l, hl, rfl⟩ ⟨y2, y4, y5, y6, y7, rfl⟩
      obtain ⟨lc, l100, hF⟩ := lasts_ok hl
      have l1 := lc.1
      have glen := rowL_len l
      have rr : RowLen (rowL l).length := ⟨by omega, by omega, by omega⟩
      show tSeq _ _ _ [some (.int G), some (.ref p3), some (.int l), y3, y4, y5, y6, y7, none] _
      refine q_asgL (el_call (vs := [.int l]) (by walk_at "ev") (v_row (T := T) lc l100)) fun na H6 hna e6 h6 => ?_
      refine q_when (b := false) (et_is (et_or (et_not (et_B (ev_isGood (T := T) _ (eq_toldV (ev_var rfl) (sq_of h6) rr)))) fun _ => et_not (et_B (ev_isGood (T := T) _ (eq_toldL (el_call (vs := [.ref na]) (ea_cons (ev_var rfl) ea_nil) (v_mirrored (T := T) (sq_of h6) rr)) (by rw [List.length_reverse]; exact rr))))) (by rw [good_rev, rowL_good lc]; rfl)) (fun z => nomatch z) fun _ H7 e7 => ?_
      refine q_when (b := false) (et_is (et_test (ev_op (ev_lenI (ev_var rfl) (sq_of (e7 _ _ h6))) (y := .int (2 * l)) (by walk_at "ev") (rv_ne rfl))) ?_) (fun z => nomatch z) fun _ H8 e8 => ?_
      · rw [glen, show (((2 * l).toNat : Nat) : Int) = 2 * l by omega]
        simp
      have h8 := (e7.trans e8) _ _ h6
      have e68 := (e6.trans e7).trans e8
      have nst := numV_stab l
      change tSeq _ _ _ [some (.int G), some (.ref p3), some (.int l), y3, some (.ref na), y5, y6, y7, none] _
      refine q_forG (K := K) (P := fun _ => NumV l) (n := 3) nst (elj_new (eli_lst nst (eai_cons (nst 0) (eq_val ev_c fun _ _ => ⟨1, rfl, by omega, by omega⟩) (eai_cons (nst 0) (eq_val (v := .int (2 * l / 3 + 1)) (by walk_at "ev") fun _ _ => ⟨_, rfl, by omega, by omega⟩) (eai_cons (nst 0) (eq_val (ev_var rfl) fun _ _ => ⟨l, rfl, by omega, by omega⟩) eai_nil))) (by decide)))
        (fun σ' => ∃ y5 y6 y7, σ' = [some (.int G), some (.ref p3), some (.int l), y3, some (.ref na), y5, y6, y7, none]) ⟨_, _, _, rfl⟩ ?_ ?_
      · rintro i x σ' H'' H0' hi e'' e0' ⟨n, rfl, n1, n2⟩ ⟨y5, y6, y7, rfl⟩
        have fr := fst_rng lc n1 n2
        have na' : num l (fst l n) = n := num_at lc ⟨⟨n1, n2⟩, .inl rfl⟩
        have nb' : num l (fst l n + n) = n := num_at lc ⟨⟨n1, n2⟩, .inr rfl⟩
        have ga : (rowL l).getD (fst l n).toNat 0 = n := by rw [rowL_get (by omega), show (((fst l n).toNat : Nat) : Int) = fst l n by omega, na']
        have gb : (rowL l).getD (fst l n + n).toNat 0 = n := by rw [rowL_get (by omega), show (((fst l n + n).toNat : Nat) : Int) = fst l n + n by omega, nb']
        show tSeq _ _ _ [some (.int G), some (.ref p3), some (.int l), y3, some (.ref na), some (.int n), y6, y7, none] _
        refine q_unp (eu_call (vs := [.int l, .int n]) (by walk_at "ev") (v_places_of (T := T) lc n1 n2)) fun H9 e9 => ?_
        have h9 := (e''.trans e9) _ _ h8
        refine s_when (b := false) (et_is (et_or (et_test (ev_op (ev_op (ev_var rfl) (ev_var rfl) (rv_ixL (sq_of h9) (atI_int fr.1 (by omega)))) (ev_var rfl) (rv_ne rfl))) fun _ => et_or (et_test (ev_op (ev_op (ev_var rfl) (ev_var rfl) (rv_ixL (sq_of h9) (atI_int (by omega) (by omega)))) (ev_var rfl) (rv_ne rfl))) fun _ => et_test (ev_op (ev_op (ev_var rfl) (ev_var rfl) rv_I0) (ev_var rfl) (rv_ne rfl))) ?_) (fun z => nomatch z) fun _ HA eA => ⟨⟨_, _, _, rfl⟩, (e0'.trans e9).trans eA⟩
        rw [ga, gb, show fst l n + n - fst l n = n by omega]
        simp
      · rintro σ' H9 e9 ⟨y5, y6, y7, rfl⟩
        have h9 := e9 _ _ h8
        refine s_when (b := false) (et_is (et_or (et_test (ev_opL1 (el_row (T := T) lc (by omega) (by walk_at "ev") (fun _ => rfl) fun i H2 => by walk_at "ev") (fun _ _ => ev_var rfl) fun p H10 hp e10 => rv_neL (sq_of hp) (sq_of (e10 _ _ h9)))) fun _ => et_not (et_B (ev_call (vs := [.int l]) (by walk_at "ev") (v__law_threes_promises lc l100 hF)))) (by simp)) (fun z => nomatch z) fun _ HA eA => ⟨⟨_, _, _, _, _, rfl⟩, ((e0.trans e68).trans e9).trans eA⟩
    rintro σ' H6 e6 ⟨y2, y4, y5, y6, y7, rfl⟩
    have gst := greatV_stab
    refine q_forG (K := K) (P := fun _ => GreatV) (n := 3) gst (elj_new (eli_lst gst (eai_cons (gst 0) (eq_val (ev_var rfl) fun _ _ => ⟨G, rfl, ⟨by omega, by omega⟩, by omega⟩) (eai_cons (gst 0) (eq_val (v := .int (G + 1)) (by walk_at "ev") fun _ _ => ⟨_, rfl, ⟨by omega, by omega⟩, by omega⟩) (eai_cons (gst 0) (eq_val (v := .int (4 * G + 1)) (by walk_at "ev") fun _ _ => ⟨_, rfl, ⟨by omega, by omega⟩, by omega⟩) eai_nil))) (by decide)))
      (fun σ' => ∃ y2 y5 y6 y7, σ' = [some (.int G), some (.ref p3), y2, y3, y4, y5, y6, y7, none]) ⟨_, _, _, _, rfl⟩ ?_ ?_
    · rintro i x σ' H' H0 hi e' e0 ⟨l, rfl, lc, l1⟩ ⟨y2, y5, y6, y7, rfl⟩
      have nst := numV_stab l
      show tFor _ _ _ _ [some (.int G), some (.ref p3), some (.int l), y3, y4, y5, y6, y7, none] _
      refine s_forG (K := K) (P := fun _ => NumV l) (n := 5) nst (elj_new (eli_lst nst (eai_cons (nst 0) (eq_val ev_c fun _ _ => ⟨1, rfl, by omega, by omega⟩) (eai_cons (nst 0) (eq_val ev_c fun _ _ => ⟨2, rfl, by omega, by omega⟩) (eai_cons (nst 0) (eq_val (v := .int (l / 2)) (by walk_at "ev") fun _ _ => ⟨_, rfl, by omega, by omega⟩) (eai_cons (nst 0) (eq_val (v := .int (l - 1)) (by walk_at "ev") fun _ _ => ⟨_, rfl, by omega, by omega⟩) (eai_cons (nst 0) (eq_val (ev_var rfl) fun _ _ => ⟨l, rfl, by omega, by omega⟩) eai_nil))))) (by decide)))
        (fun σ' => ∃ y5 y6 y7, σ' = [some (.int G), some (.ref p3), some (.int l), y3, y4, y5, y6, y7, none]) ⟨_, _, _, rfl⟩ ?_ fun σ' H'' e'' ⟨y5, y6, y7, hs⟩ => ⟨⟨_, _, _, _, hs⟩, e0.trans e''⟩
      rintro i x σ' H'' H0' hi e'' e0' ⟨n, rfl, n1, n2⟩ ⟨y5, y6, y7, rfl⟩
      have fr := fst_rng lc n1 n2
      have na' : num l (fst l n) = n := num_at lc ⟨⟨n1, n2⟩, .inl rfl⟩
      have nb' : num l (fst l n + n) = n := num_at lc ⟨⟨n1, n2⟩, .inr rfl⟩
      show tSeq _ _ _ [some (.int G), some (.ref p3), some (.int l), y3, y4, some (.int n), y6, y7, none] _
      refine q_unp (eu_call (vs := [.int l, .int n]) (by walk_at "ev") (v_places_of (T := T) lc n1 n2)) fun H9 e9 => ?_
      refine q_when (b := false) (et_is (et_or (et_test (ev_op (ev_op (ev_var rfl) (ev_var rfl) rv_I0) (ev_var rfl) (rv_ne rfl))) fun _ => et_or (et_test (ev_op (ev_call (vs := [.int l, .int (fst l n)]) (by walk_at "ev") (v_number_at (T := T) lc fr.1 (by omega))) (ev_var rfl) (rv_ne rfl))) fun _ => et_test (ev_op (ev_call (vs := [.int l, .int (fst l n + n)]) (by walk_at "ev") (v_number_at (T := T) lc (by omega) fr.2)) (ev_var rfl) (rv_ne rfl))) ?_) (fun z => nomatch z) fun _ HA eA => ?_
      · rw [na', nb', show fst l n + n - fst l n = n by omega]
        simp
      refine s_when (b := false) (et_is (et_not (et_chainN ev_c (et_link (ev_var rfl) rv_I0 fun _ => et_link (ev_var rfl) rv_I0 fun _ => et_last (y := .int (2 * l)) (by walk_at "ev") rv_I0))) ?_) (fun z => nomatch z) fun _ HB eB => ⟨⟨_, _, _, rfl⟩, ((e0'.trans e9).trans eA).trans eB⟩
      rw [decide_eq_true fr.1, decide_eq_true (show fst l n < fst l n + n by omega), decide_eq_true fr.2]
      rfl
    · rintro σ' H7 e7 ⟨y2, y5, y6, y7, rfl⟩
      exact s_ret (ev_call (vs := []) ea_nil v__law_judged_promises) fun H8 e8 => k H8 (((e05.trans e6).trans e7).trans e8)
theorem v__law_promises_right {H : Hp} : SpV sp__law_promises_right [] H (.bl true) := fun _ _ _ q _ => ⟨rfl, q⟩
end
end PA

set_option Elab.async false
set_option linter.all false
set_option maxRecDepth 100000
set_option maxHeartbeats 4000000
namespace PA
open PySem PySem.Spec PyProof.Rows L2 Evl LamX NdefX
local macro_rules | `(tactic| walk_at "ev") => `(tactic| repeat' (first | (with_reducible exact ev_c) | (with_reducible refine' ev_var ?_) | (show _ = some (some _); rfl) | (with_reducible exact ea_nil) | (with_reducible refine' ea_cons ?_ ?_) | (with_reducible refine' ev_abs ?_) | (with_reducible refine' ev_op ?_ ?_ ?_) | (with_reducible exact rv_I0) | (exact rv_mulL (by decide)) | (exact rv_mulR (by decide)) | (exact rv_div (by decide)) | (exact rv_mod (by decide)) | (exact rv_pow (by decide)) | (with_reducible refine' ev_un ?_ ?_) | (with_reducible exact ru_neg) | (exact rv_eq rfl) | (exact rv_ne rfl) | (with_reducible refine' et_test ?_) | (with_reducible refine' et_B ?_) | (exact ev_c) | (exact rv_I0) | (exact ru_neg) | (exact ea_nil) | (refine' ea_cons ?_ ?_)))
section
variable {P : Program} {w : World} {K : PySem.W.Frag} {mg : Str → Option Value} {base : Heap}
def sp_law (T : Tx K mg) : Sp := fun vs H Q _ => ∃ (a : Addr) (ns : List Int), vs = [.ref a] ∧ SqL K H a (ns.map V.int) ∧ ns.length ≤ 63 ∧ (∀ z ∈ ns, Builtin.Int.intBits z ≤ 1048576) ∧ H T.p__law_known_right = some (.tbl #[]) ∧ H T.p__law_first_right = some (.tbl #[]) ∧ ∀ H', Q (.bl true) H'
theorem ok_law (T : Tx K mg) (TB__law_known_right : TabB base mg T.q__law_known_right T.p__law_known_right) (TB__law_first_right : TabB base mg T.q__law_first_right T.p__law_first_right) : FnOk P w K mg base CX0 9 T.a_law T.d_law ["_law_script"] (sp_law T) := by
  refine T.F_law.ok sc_law (fun vs H Q E h => ?_) (fun cdv A outer s H vs Q E hr h => ?_)
  · obtain ⟨a, ns, rfl, _⟩ := h
    rfl
  · obtain ⟨a, ns, rfl, hS, hlen, hbits, hT1, hT2, k⟩ := h
    refine ⟨_, (pss_cons (ps_if (pt_not (pt_val (pe_call0 (ok__law_promises_right T) (hr.mono (by decide)) (by rfl) T.g__law_promises_right T.F__law_promises_right.kp T.b__law_promises_right .nil pass0))) (pss_one (ps_ret pe_bl)) pss_nil)
      (pss_cons (ps_set (i := 1) sc_law.nd rfl (.inl rfl) (pe_callB call_abs (by rfl) T.m_abs bt_abs (pa_cons (pe_callB (r := rSum K) (cr_sum rfl) (by rfl) T.m_sum bt_sum (pa_cons (pe_slice (r := rSlL K) sl_list (pv 0) po_none (po_some pe_int)) pa_nil)) pa_nil)))
      (pss_one (ps_ret (pe_and (pe_call (ok__law_long_right T) (hr.mono (by decide)) (by rfl) T.g__law_long_right T.F__law_long_right.kp T.b__law_long_right .nil pass0 (pa_cons (pv 1) pa_nil)) (pe_and (pe_call (ok__law_known_right T TB__law_known_right) (hr.mono (by decide)) (by rfl) T.g__law_known_right T.F__law_known_right.kp T.b__law_known_right .nil pass0 (pa_cons (pe_op op_mod (pv 1) pe_int) pa_nil)) (pe_one (pe_call (ok__law_first_right T TB__law_first_right) (hr.mono (by decide)) (by rfl) T.g__law_first_right T.F__law_first_right.kp T.b__law_first_right .nil pass0 (pa_cons (pv 1) pa_nil))))))))), ?_⟩
    have cut : cutV (ns.map V.int) none (some 63) = ns.map V.int := cut_all (by rw [List.length_map]; exact hlen)
    refine q_when (b := false) (et_is (et_not (et_B (ev_call (vs := []) ea_nil v__law_promises_right))) rfl) (fun z => nomatch z) fun _ H1 e1 => ?_
    refine q_asg (v := .int (if ns.sum < 0 then -ns.sum else ns.sum)) (ev_abs (ev_cbL (xs := ns.map V.int) (el_is (el_sl (ev_var rfl) eo_none (eo_some ev_c) (ex_l e1 hS)) cut) fun p H1 h1 e1 => rc_sum (sq_of h1))) fun H2 e2 => ?_
    generalize hwh : (if ns.sum < 0 then -ns.sum else ns.sum) = wh
    have w0 : 0 ≤ wh := by
      rw [← hwh]
      split <;> omega
    have m0 := Int.emod_nonneg wh (show (4 : Int) ≠ 0 by decide)
    have m1 := Int.emod_lt_of_pos wh (show (0 : Int) < 4 by decide)
    have e02 := e1.trans e2
    refine (ev_call (vs := [.int wh]) (ea_cons (ev_var rfl) ea_nil) (v__law_long_right w0)) H2 (Ex.refl _) _ fun H3 e3 => ⟨true, rfl, ?_⟩
    rw [if_pos rfl]
    have A3 : EvA (tCons (tOp (rI (fun _ j => 0 < j) fun i j => .int (i % j)) (tVar 1) (tC (.int 4))) tNil) [some (.ref a), some (.int wh)] H3 [.int (wh % 4)] := ea_cons (ev_op (ev_var rfl) ev_c (rv_mod (by decide))) ea_nil
    unfold tAndV tCall
    refine A3 H3 (Ex.refl _) _ fun H4 e4 => ?_
    have e04 := (e02.trans e3).trans e4
    refine ⟨wh % 4, rfl, m0, m1, e04 _ _ hT1, fun H5 eB => ⟨true, rfl, ?_⟩⟩
    rw [if_pos rfl]
    have A5 : EvA (tCons (tVar 1) tNil) [some (.ref a), some (.int wh)] H5 [.int wh] := ea_cons (ev_var rfl) ea_nil
    exact A5 H5 (Ex.refl _) _ fun H6 e6 => v__law_first_right w0 (e6 _ _ (eB _ _ (fun z => T.pne0 z.symm) (e04 _ _ hT2))) k
end
end PA

set_option Elab.async false
set_option linter.all false
set_option maxRecDepth 100000
set_option maxHeartbeats 4000000
namespace PA
open PySem PySem.Spec PyProof.Rows L2 Evl
def all_tx {K : PySem.W.Frag} {h : Heap} {mg : Str → Option Value} {e_Answer e_Can e_Barred e_Good e_Off e_PairError e_BadLast e_BadNumber e_BadPlace e_BadRow e_NoRow f_Can_shows f_Barred_shows f_is_right f_Good_shows f_Off___init__ f_Off_shows f_is_number f_asked_last f_can f_asked_row f_first_by_fours f_first_by_ones f_first_of f_both f_places_of f_at_place f_number_at f_row f_asked_list f_told f_mirrored f_three_by f_three_of f__law_refused f__law_plain f__law_truths f__law_long_right f__law_known_right q__law_known_right p__law_known_right f__law_first_right q__law_first_right p__law_first_right f__law_threes_promises f__law_promises_right f__law_judged_promises f_law e_FIRSTS e_F1 e_F4 e_F5 : Addr} {t_GREATEST t_F1 t_F4 t_F5 t_Fa0 t_Fa1 t_Fa2 t_Fa3 t_Fa4 t_Fa5 t_Fa6 t_Fa7 t_Fa8 t_Fa9 t_MOST : Tok} (X : K.In h) (G : h.Ns mainGlobals mg)
    {oc_Can_shows kV_Can_shows dc_Can_shows pm_Can_shows cd_Can_shows ct_Can_shows : Value} {od_Can_shows an_Can_shows : Option Addr} {sl_Can_shows : Array (Option Value)}
    {oc_Barred_shows kV_Barred_shows dc_Barred_shows pm_Barred_shows cd_Barred_shows ct_Barred_shows : Value} {od_Barred_shows an_Barred_shows : Option Addr} {sl_Barred_shows : Array (Option Value)}
    {oc_is_right kV_is_right dc_is_right pm_is_right cd_is_right ct_is_right : Value} {od_is_right an_is_right : Option Addr} {sl_is_right : Array (Option Value)}
    {oc_Good_shows kV_Good_shows dc_Good_shows pm_Good_shows cd_Good_shows ct_Good_shows : Value} {od_Good_shows an_Good_shows : Option Addr} {sl_Good_shows : Array (Option Value)}
    {oc_Off___init__ kV_Off___init__ dc_Off___init__ pm_Off___init__ cd_Off___init__ ct_Off___init__ : Value} {od_Off___init__ an_Off___init__ : Option Addr} {sl_Off___init__ : Array (Option Value)}
    {oc_Off_shows kV_Off_shows dc_Off_shows pm_Off_shows cd_Off_shows ct_Off_shows : Value} {od_Off_shows an_Off_shows : Option Addr} {sl_Off_shows : Array (Option Value)}
    {oc_is_number kV_is_number dc_is_number pm_is_number cd_is_number ct_is_number : Value} {od_is_number an_is_number : Option Addr} {sl_is_number : Array (Option Value)}
    {oc_asked_last kV_asked_last dc_asked_last pm_asked_last cd_asked_last ct_asked_last : Value} {od_asked_last an_asked_last : Option Addr} {sl_asked_last : Array (Option Value)}
    {oc_can kV_can dc_can pm_can cd_can ct_can : Value} {od_can an_can : Option Addr} {sl_can : Array (Option Value)}
    {oc_asked_row kV_asked_row dc_asked_row pm_asked_row cd_asked_row ct_asked_row : Value} {od_asked_row an_asked_row : Option Addr} {sl_asked_row : Array (Option Value)}
    {oc_first_by_fours kV_first_by_fours dc_first_by_fours pm_first_by_fours cd_first_by_fours ct_first_by_fours : Value} {od_first_by_fours an_first_by_fours : Option Addr} {sl_first_by_fours : Array (Option Value)}
    {oc_first_by_ones kV_first_by_ones dc_first_by_ones pm_first_by_ones cd_first_by_ones ct_first_by_ones : Value} {od_first_by_ones an_first_by_ones : Option Addr} {sl_first_by_ones : Array (Option Value)}
    {oc_first_of kV_first_of dc_first_of pm_first_of cd_first_of ct_first_of : Value} {od_first_of an_first_of : Option Addr} {sl_first_of : Array (Option Value)}
    {oc_both kV_both dc_both pm_both cd_both ct_both : Value} {od_both an_both : Option Addr} {sl_both : Array (Option Value)}
    {oc_places_of kV_places_of dc_places_of pm_places_of cd_places_of ct_places_of : Value} {od_places_of an_places_of : Option Addr} {sl_places_of : Array (Option Value)}
    {oc_at_place kV_at_place dc_at_place pm_at_place cd_at_place ct_at_place : Value} {od_at_place an_at_place : Option Addr} {sl_at_place : Array (Option Value)}
    {oc_number_at kV_number_at dc_number_at pm_number_at cd_number_at ct_number_at : Value} {od_number_at an_number_at : Option Addr} {sl_number_at : Array (Option Value)}
    {oc_row kV_row dc_row pm_row cd_row ct_row : Value} {od_row an_row : Option Addr} {sl_row : Array (Option Value)}
    {oc_asked_list kV_asked_list dc_asked_list pm_asked_list cd_asked_list ct_asked_list : Value} {od_asked_list an_asked_list : Option Addr} {sl_asked_list : Array (Option Value)}
    {oc_told kV_told dc_told pm_told cd_told ct_told : Value} {od_told an_told : Option Addr} {sl_told : Array (Option Value)}
    {oc_mirrored kV_mirrored dc_mirrored pm_mirrored cd_mirrored ct_mirrored : Value} {od_mirrored an_mirrored : Option Addr} {sl_mirrored : Array (Option Value)}
    {oc_three_by kV_three_by dc_three_by pm_three_by cd_three_by ct_three_by : Value} {od_three_by an_three_by : Option Addr} {sl_three_by : Array (Option Value)}
    {oc_three_of kV_three_of dc_three_of pm_three_of cd_three_of ct_three_of : Value} {od_three_of an_three_of : Option Addr} {sl_three_of : Array (Option Value)}
    {oc__law_refused kV__law_refused dc__law_refused pm__law_refused cd__law_refused ct__law_refused : Value} {od__law_refused an__law_refused : Option Addr} {sl__law_refused : Array (Option Value)}
    {oc__law_plain kV__law_plain dc__law_plain pm__law_plain cd__law_plain ct__law_plain : Value} {od__law_plain an__law_plain : Option Addr} {sl__law_plain : Array (Option Value)}
    {oc__law_truths kV__law_truths dc__law_truths pm__law_truths cd__law_truths ct__law_truths : Value} {od__law_truths an__law_truths : Option Addr} {sl__law_truths : Array (Option Value)}
    {oc__law_long_right kV__law_long_right dc__law_long_right pm__law_long_right cd__law_long_right ct__law_long_right : Value} {od__law_long_right an__law_long_right : Option Addr} {sl__law_long_right : Array (Option Value)}
    {oc__law_known_right kV__law_known_right dc__law_known_right pm__law_known_right ct__law_known_right : Value} {od__law_known_right an__law_known_right : Option Addr} {sl__law_known_right : Array (Option Value)}
    {ce__law_known_right : Value} {cdd__law_known_right : Option Addr} {cv__law_known_right : Array Value} {cs__law_known_right : Array (Option Value)}
    {oc__law_first_right kV__law_first_right dc__law_first_right pm__law_first_right ct__law_first_right : Value} {od__law_first_right an__law_first_right : Option Addr} {sl__law_first_right : Array (Option Value)}
    {ce__law_first_right : Value} {cdd__law_first_right : Option Addr} {cv__law_first_right : Array Value} {cs__law_first_right : Array (Option Value)}
    {oc__law_threes_promises kV__law_threes_promises dc__law_threes_promises pm__law_threes_promises cd__law_threes_promises ct__law_threes_promises : Value} {od__law_threes_promises an__law_threes_promises : Option Addr} {sl__law_threes_promises : Array (Option Value)}
    {oc__law_promises_right kV__law_promises_right dc__law_promises_right pm__law_promises_right cd__law_promises_right ct__law_promises_right : Value} {od__law_promises_right an__law_promises_right : Option Addr} {sl__law_promises_right : Array (Option Value)}
    {oc__law_judged_promises kV__law_judged_promises dc__law_judged_promises pm__law_judged_promises cd__law_judged_promises ct__law_judged_promises : Value} {od__law_judged_promises an__law_judged_promises : Option Addr} {sl__law_judged_promises : Array (Option Value)}
    {oc_law kV_law dc_law pm_law cd_law ct_law : Value} {od_law an_law : Option Addr} {sl_law : Array (Option Value)}
    {n_F n_F1 n_F4 n_F5 : Nat} {dd_F1 dd_F4 dd_F5 : Option Addr} {ss_F1 ss_F4 ss_F5 : Array (Option Value)}
    (z_Answer : PySem.W.nsIn K mainGlobals "Answer" = some (some (.ref e_Answer)))
    (z_Can : PySem.W.nsIn K mainGlobals "Can" = some (some (.ref e_Can)))
    (z_Barred : PySem.W.nsIn K mainGlobals "Barred" = some (some (.ref e_Barred)))
    (z_Good : PySem.W.nsIn K mainGlobals "Good" = some (some (.ref e_Good)))
    (z_Off : PySem.W.nsIn K mainGlobals "Off" = some (some (.ref e_Off)))
    (z_PairError : PySem.W.nsIn K mainGlobals "PairError" = some (some (.ref e_PairError)))
    (z_BadLast : PySem.W.nsIn K mainGlobals "BadLast" = some (some (.ref e_BadLast)))
    (z_BadNumber : PySem.W.nsIn K mainGlobals "BadNumber" = some (some (.ref e_BadNumber)))
    (z_BadPlace : PySem.W.nsIn K mainGlobals "BadPlace" = some (some (.ref e_BadPlace)))
    (z_BadRow : PySem.W.nsIn K mainGlobals "BadRow" = some (some (.ref e_BadRow)))
    (z_NoRow : PySem.W.nsIn K mainGlobals "NoRow" = some (some (.ref e_NoRow)))
    (a_Can_shows : PySem.W.findIn K (.ref e_Can) "shows" = some (some (.ref f_Can_shows)))
    (i_Can_shows : PySem.W.isFn K (.ref f_Can_shows) = true)
    (l_Can_shows : K.lookup f_Can_shows = some ⟨oc_Can_shows, od_Can_shows, .func (PySem.W.fnOf "shows" "Can.shows" (defArgs s_Can_shows) (defBody s_Can_shows) (defScope s_Can_shows) .none kV_Can_shows dc_Can_shows pm_Can_shows an_Can_shows cd_Can_shows ct_Can_shows), sl_Can_shows⟩)
    (c_Can_shows : PySem.W.codeIn K cd_Can_shows "Can.shows" = true)
    (k_Can_shows : PySem.W.keepIn K (.ref f_Can_shows) = true)
    (a_Barred_shows : PySem.W.findIn K (.ref e_Barred) "shows" = some (some (.ref f_Barred_shows)))
    (i_Barred_shows : PySem.W.isFn K (.ref f_Barred_shows) = true)
    (l_Barred_shows : K.lookup f_Barred_shows = some ⟨oc_Barred_shows, od_Barred_shows, .func (PySem.W.fnOf "shows" "Barred.shows" (defArgs s_Barred_shows) (defBody s_Barred_shows) (defScope s_Barred_shows) .none kV_Barred_shows dc_Barred_shows pm_Barred_shows an_Barred_shows cd_Barred_shows ct_Barred_shows), sl_Barred_shows⟩)
    (c_Barred_shows : PySem.W.codeIn K cd_Barred_shows "Barred.shows" = true)
    (k_Barred_shows : PySem.W.keepIn K (.ref f_Barred_shows) = true)
    (a_is_right : PySem.W.nsIn K mainGlobals "is_right" = some (some (.ref f_is_right)))
    (l_is_right : K.lookup f_is_right = some ⟨oc_is_right, od_is_right, .func (PySem.W.fnOf "is_right" "is_right" (defArgs s_is_right) (defBody s_is_right) (defScope s_is_right) .none kV_is_right dc_is_right pm_is_right an_is_right cd_is_right ct_is_right), sl_is_right⟩)
    (c_is_right : PySem.W.codeIn K cd_is_right "is_right" = true)
    (k_is_right : PySem.W.keepIn K (.ref f_is_right) = true)
    (a_Good_shows : PySem.W.findIn K (.ref e_Good) "shows" = some (some (.ref f_Good_shows)))
    (i_Good_shows : PySem.W.isFn K (.ref f_Good_shows) = true)
    (l_Good_shows : K.lookup f_Good_shows = some ⟨oc_Good_shows, od_Good_shows, .func (PySem.W.fnOf "shows" "Good.shows" (defArgs s_Good_shows) (defBody s_Good_shows) (defScope s_Good_shows) .none kV_Good_shows dc_Good_shows pm_Good_shows an_Good_shows cd_Good_shows ct_Good_shows), sl_Good_shows⟩)
    (c_Good_shows : PySem.W.codeIn K cd_Good_shows "Good.shows" = true)
    (k_Good_shows : PySem.W.keepIn K (.ref f_Good_shows) = true)
    (a_Off___init__ : PySem.W.findIn K (.ref e_Off) "__init__" = some (some (.ref f_Off___init__)))
    (i_Off___init__ : PySem.W.isFn K (.ref f_Off___init__) = true)
    (l_Off___init__ : K.lookup f_Off___init__ = some ⟨oc_Off___init__, od_Off___init__, .func (PySem.W.fnOf "__init__" "Off.__init__" (defArgs s_Off___init__) (defBody s_Off___init__) (defScope s_Off___init__) .none kV_Off___init__ dc_Off___init__ pm_Off___init__ an_Off___init__ cd_Off___init__ ct_Off___init__), sl_Off___init__⟩)
    (c_Off___init__ : PySem.W.codeIn K cd_Off___init__ "Off.__init__" = true)
    (k_Off___init__ : PySem.W.keepIn K (.ref f_Off___init__) = true)
    (a_Off_shows : PySem.W.findIn K (.ref e_Off) "shows" = some (some (.ref f_Off_shows)))
    (i_Off_shows : PySem.W.isFn K (.ref f_Off_shows) = true)
    (l_Off_shows : K.lookup f_Off_shows = some ⟨oc_Off_shows, od_Off_shows, .func (PySem.W.fnOf "shows" "Off.shows" (defArgs s_Off_shows) (defBody s_Off_shows) (defScope s_Off_shows) .none kV_Off_shows dc_Off_shows pm_Off_shows an_Off_shows cd_Off_shows ct_Off_shows), sl_Off_shows⟩)
    (c_Off_shows : PySem.W.codeIn K cd_Off_shows "Off.shows" = true)
    (k_Off_shows : PySem.W.keepIn K (.ref f_Off_shows) = true)
    (a_is_number : PySem.W.nsIn K mainGlobals "is_number" = some (some (.ref f_is_number)))
    (l_is_number : K.lookup f_is_number = some ⟨oc_is_number, od_is_number, .func (PySem.W.fnOf "is_number" "is_number" (defArgs s_is_number) (defBody s_is_number) (defScope s_is_number) .none kV_is_number dc_is_number pm_is_number an_is_number cd_is_number ct_is_number), sl_is_number⟩)
    (c_is_number : PySem.W.codeIn K cd_is_number "is_number" = true)
    (k_is_number : PySem.W.keepIn K (.ref f_is_number) = true)
    (a_asked_last : PySem.W.nsIn K mainGlobals "asked_last" = some (some (.ref f_asked_last)))
    (l_asked_last : K.lookup f_asked_last = some ⟨oc_asked_last, od_asked_last, .func (PySem.W.fnOf "asked_last" "asked_last" (defArgs s_asked_last) (defBody s_asked_last) (defScope s_asked_last) .none kV_asked_last dc_asked_last pm_asked_last an_asked_last cd_asked_last ct_asked_last), sl_asked_last⟩)
    (c_asked_last : PySem.W.codeIn K cd_asked_last "asked_last" = true)
    (k_asked_last : PySem.W.keepIn K (.ref f_asked_last) = true)
    (a_can : PySem.W.nsIn K mainGlobals "can" = some (some (.ref f_can)))
    (l_can : K.lookup f_can = some ⟨oc_can, od_can, .func (PySem.W.fnOf "can" "can" (defArgs s_can) (defBody s_can) (defScope s_can) .none kV_can dc_can pm_can an_can cd_can ct_can), sl_can⟩)
    (c_can : PySem.W.codeIn K cd_can "can" = true)
    (k_can : PySem.W.keepIn K (.ref f_can) = true)
    (a_asked_row : PySem.W.nsIn K mainGlobals "asked_row" = some (some (.ref f_asked_row)))
    (l_asked_row : K.lookup f_asked_row = some ⟨oc_asked_row, od_asked_row, .func (PySem.W.fnOf "asked_row" "asked_row" (defArgs s_asked_row) (defBody s_asked_row) (defScope s_asked_row) .none kV_asked_row dc_asked_row pm_asked_row an_asked_row cd_asked_row ct_asked_row), sl_asked_row⟩)
    (c_asked_row : PySem.W.codeIn K cd_asked_row "asked_row" = true)
    (k_asked_row : PySem.W.keepIn K (.ref f_asked_row) = true)
    (a_first_by_fours : PySem.W.nsIn K mainGlobals "first_by_fours" = some (some (.ref f_first_by_fours)))
    (l_first_by_fours : K.lookup f_first_by_fours = some ⟨oc_first_by_fours, od_first_by_fours, .func (PySem.W.fnOf "first_by_fours" "first_by_fours" (defArgs s_first_by_fours) (defBody s_first_by_fours) (defScope s_first_by_fours) .none kV_first_by_fours dc_first_by_fours pm_first_by_fours an_first_by_fours cd_first_by_fours ct_first_by_fours), sl_first_by_fours⟩)
    (c_first_by_fours : PySem.W.codeIn K cd_first_by_fours "first_by_fours" = true)
    (k_first_by_fours : PySem.W.keepIn K (.ref f_first_by_fours) = true)
    (a_first_by_ones : PySem.W.nsIn K mainGlobals "first_by_ones" = some (some (.ref f_first_by_ones)))
    (l_first_by_ones : K.lookup f_first_by_ones = some ⟨oc_first_by_ones, od_first_by_ones, .func (PySem.W.fnOf "first_by_ones" "first_by_ones" (defArgs s_first_by_ones) (defBody s_first_by_ones) (defScope s_first_by_ones) .none kV_first_by_ones dc_first_by_ones pm_first_by_ones an_first_by_ones cd_first_by_ones ct_first_by_ones), sl_first_by_ones⟩)
    (c_first_by_ones : PySem.W.codeIn K cd_first_by_ones "first_by_ones" = true)
    (k_first_by_ones : PySem.W.keepIn K (.ref f_first_by_ones) = true)
    (a_first_of : PySem.W.nsIn K mainGlobals "first_of" = some (some (.ref f_first_of)))
    (l_first_of : K.lookup f_first_of = some ⟨oc_first_of, od_first_of, .func (PySem.W.fnOf "first_of" "first_of" (defArgs s_first_of) (defBody s_first_of) (defScope s_first_of) .none kV_first_of dc_first_of pm_first_of an_first_of cd_first_of ct_first_of), sl_first_of⟩)
    (c_first_of : PySem.W.codeIn K cd_first_of "first_of" = true)
    (k_first_of : PySem.W.keepIn K (.ref f_first_of) = true)
    (a_both : PySem.W.nsIn K mainGlobals "both" = some (some (.ref f_both)))
    (l_both : K.lookup f_both = some ⟨oc_both, od_both, .func (PySem.W.fnOf "both" "both" (defArgs s_both) (defBody s_both) (defScope s_both) .none kV_both dc_both pm_both an_both cd_both ct_both), sl_both⟩)
    (c_both : PySem.W.codeIn K cd_both "both" = true)
    (k_both : PySem.W.keepIn K (.ref f_both) = true)
    (a_places_of : PySem.W.nsIn K mainGlobals "places_of" = some (some (.ref f_places_of)))
    (l_places_of : K.lookup f_places_of = some ⟨oc_places_of, od_places_of, .func (PySem.W.fnOf "places_of" "places_of" (defArgs s_places_of) (defBody s_places_of) (defScope s_places_of) .none kV_places_of dc_places_of pm_places_of an_places_of cd_places_of ct_places_of), sl_places_of⟩)
    (c_places_of : PySem.W.codeIn K cd_places_of "places_of" = true)
    (k_places_of : PySem.W.keepIn K (.ref f_places_of) = true)
    (a_at_place : PySem.W.nsIn K mainGlobals "at_place" = some (some (.ref f_at_place)))
    (l_at_place : K.lookup f_at_place = some ⟨oc_at_place, od_at_place, .func (PySem.W.fnOf "at_place" "at_place" (defArgs s_at_place) (defBody s_at_place) (defScope s_at_place) .none kV_at_place dc_at_place pm_at_place an_at_place cd_at_place ct_at_place), sl_at_place⟩)
    (c_at_place : PySem.W.codeIn K cd_at_place "at_place" = true)
    (k_at_place : PySem.W.keepIn K (.ref f_at_place) = true)
    (a_number_at : PySem.W.nsIn K mainGlobals "number_at" = some (some (.ref f_number_at)))
    (l_number_at : K.lookup f_number_at = some ⟨oc_number_at, od_number_at, .func (PySem.W.fnOf "number_at" "number_at" (defArgs s_number_at) (defBody s_number_at) (defScope s_number_at) .none kV_number_at dc_number_at pm_number_at an_number_at cd_number_at ct_number_at), sl_number_at⟩)
    (c_number_at : PySem.W.codeIn K cd_number_at "number_at" = true)
    (k_number_at : PySem.W.keepIn K (.ref f_number_at) = true)
    (a_row : PySem.W.nsIn K mainGlobals "row" = some (some (.ref f_row)))
    (l_row : K.lookup f_row = some ⟨oc_row, od_row, .func (PySem.W.fnOf "row" "row" (defArgs s_row) (defBody s_row) (defScope s_row) .none kV_row dc_row pm_row an_row cd_row ct_row), sl_row⟩)
    (c_row : PySem.W.codeIn K cd_row "row" = true)
    (k_row : PySem.W.keepIn K (.ref f_row) = true)
    (a_asked_list : PySem.W.nsIn K mainGlobals "asked_list" = some (some (.ref f_asked_list)))
    (l_asked_list : K.lookup f_asked_list = some ⟨oc_asked_list, od_asked_list, .func (PySem.W.fnOf "asked_list" "asked_list" (defArgs s_asked_list) (defBody s_asked_list) (defScope s_asked_list) .none kV_asked_list dc_asked_list pm_asked_list an_asked_list cd_asked_list ct_asked_list), sl_asked_list⟩)
    (c_asked_list : PySem.W.codeIn K cd_asked_list "asked_list" = true)
    (k_asked_list : PySem.W.keepIn K (.ref f_asked_list) = true)
    (a_told : PySem.W.nsIn K mainGlobals "told" = some (some (.ref f_told)))
    (l_told : K.lookup f_told = some ⟨oc_told, od_told, .func (PySem.W.fnOf "told" "told" (defArgs s_told) (defBody s_told) (defScope s_told) .none kV_told dc_told pm_told an_told cd_told ct_told), sl_told⟩)
    (c_told : PySem.W.codeIn K cd_told "told" = true)
    (k_told : PySem.W.keepIn K (.ref f_told) = true)
    (a_mirrored : PySem.W.nsIn K mainGlobals "mirrored" = some (some (.ref f_mirrored)))
    (l_mirrored : K.lookup f_mirrored = some ⟨oc_mirrored, od_mirrored, .func (PySem.W.fnOf "mirrored" "mirrored" (defArgs s_mirrored) (defBody s_mirrored) (defScope s_mirrored) .none kV_mirrored dc_mirrored pm_mirrored an_mirrored cd_mirrored ct_mirrored), sl_mirrored⟩)
    (c_mirrored : PySem.W.codeIn K cd_mirrored "mirrored" = true)
    (k_mirrored : PySem.W.keepIn K (.ref f_mirrored) = true)
    (a_three_by : PySem.W.nsIn K mainGlobals "three_by" = some (some (.ref f_three_by)))
    (l_three_by : K.lookup f_three_by = some ⟨oc_three_by, od_three_by, .func (PySem.W.fnOf "three_by" "three_by" (defArgs s_three_by) (defBody s_three_by) (defScope s_three_by) .none kV_three_by dc_three_by pm_three_by an_three_by cd_three_by ct_three_by), sl_three_by⟩)
    (c_three_by : PySem.W.codeIn K cd_three_by "three_by" = true)
    (k_three_by : PySem.W.keepIn K (.ref f_three_by) = true)
    (a_three_of : PySem.W.nsIn K mainGlobals "three_of" = some (some (.ref f_three_of)))
    (l_three_of : K.lookup f_three_of = some ⟨oc_three_of, od_three_of, .func (PySem.W.fnOf "three_of" "three_of" (defArgs s_three_of) (defBody s_three_of) (defScope s_three_of) .none kV_three_of dc_three_of pm_three_of an_three_of cd_three_of ct_three_of), sl_three_of⟩)
    (c_three_of : PySem.W.codeIn K cd_three_of "three_of" = true)
    (k_three_of : PySem.W.keepIn K (.ref f_three_of) = true)
    (a__law_refused : PySem.W.nsIn K mainGlobals "_law_refused" = some (some (.ref f__law_refused)))
    (l__law_refused : K.lookup f__law_refused = some ⟨oc__law_refused, od__law_refused, .func (PySem.W.fnOf "_law_refused" "_law_refused" (defArgs s__law_refused) (defBody s__law_refused) (defScope s__law_refused) .none kV__law_refused dc__law_refused pm__law_refused an__law_refused cd__law_refused ct__law_refused), sl__law_refused⟩)
    (c__law_refused : PySem.W.codeIn K cd__law_refused "_law_refused" = true)
    (k__law_refused : PySem.W.keepIn K (.ref f__law_refused) = true)
    (a__law_plain : PySem.W.nsIn K mainGlobals "_law_plain" = some (some (.ref f__law_plain)))
    (l__law_plain : K.lookup f__law_plain = some ⟨oc__law_plain, od__law_plain, .func (PySem.W.fnOf "_law_plain" "_law_plain" (defArgs s__law_plain) (defBody s__law_plain) (defScope s__law_plain) .none kV__law_plain dc__law_plain pm__law_plain an__law_plain cd__law_plain ct__law_plain), sl__law_plain⟩)
    (c__law_plain : PySem.W.codeIn K cd__law_plain "_law_plain" = true)
    (k__law_plain : PySem.W.keepIn K (.ref f__law_plain) = true)
    (a__law_truths : PySem.W.nsIn K mainGlobals "_law_truths" = some (some (.ref f__law_truths)))
    (l__law_truths : K.lookup f__law_truths = some ⟨oc__law_truths, od__law_truths, .func (PySem.W.fnOf "_law_truths" "_law_truths" (defArgs s__law_truths) (defBody s__law_truths) (defScope s__law_truths) .none kV__law_truths dc__law_truths pm__law_truths an__law_truths cd__law_truths ct__law_truths), sl__law_truths⟩)
    (c__law_truths : PySem.W.codeIn K cd__law_truths "_law_truths" = true)
    (k__law_truths : PySem.W.keepIn K (.ref f__law_truths) = true)
    (a__law_long_right : PySem.W.nsIn K mainGlobals "_law_long_right" = some (some (.ref f__law_long_right)))
    (l__law_long_right : K.lookup f__law_long_right = some ⟨oc__law_long_right, od__law_long_right, .func (PySem.W.fnOf "_law_long_right" "_law_long_right" (defArgs s__law_long_right) (defBody s__law_long_right) (defScope s__law_long_right) .none kV__law_long_right dc__law_long_right pm__law_long_right an__law_long_right cd__law_long_right ct__law_long_right), sl__law_long_right⟩)
    (c__law_long_right : PySem.W.codeIn K cd__law_long_right "_law_long_right" = true)
    (k__law_long_right : PySem.W.keepIn K (.ref f__law_long_right) = true)
    (a__law_known_right : PySem.W.nsIn K mainGlobals "_law_known_right" = some (some (.ref f__law_known_right)))
    (l__law_known_right : K.lookup f__law_known_right = some ⟨oc__law_known_right, od__law_known_right, .func (PySem.W.fnOf "_law_known_right" "_law_known_right" (defArgs s__law_known_right) (defBody s__law_known_right) (defScope s__law_known_right) .none kV__law_known_right dc__law_known_right pm__law_known_right an__law_known_right (.ref q__law_known_right) ct__law_known_right), sl__law_known_right⟩)
    (c__law_known_right : PySem.W.codeIn K (.ref q__law_known_right) "_law_known_right" = true)
    (k__law_known_right : PySem.W.keepIn K (.ref f__law_known_right) = true)
    (qk__law_known_right : K.lookup q__law_known_right = some ⟨ce__law_known_right, cdd__law_known_right, .fields cv__law_known_right, cs__law_known_right⟩)
    (qp__law_known_right : cv__law_known_right[11]? = some (.ref p__law_known_right))
    (qh__law_known_right : PySem.W.codeHdIn K q__law_known_right p__law_known_right = true)
    (qn__law_known_right : K.lookup p__law_known_right = none)
    (a__law_first_right : PySem.W.nsIn K mainGlobals "_law_first_right" = some (some (.ref f__law_first_right)))
    (l__law_first_right : K.lookup f__law_first_right = some ⟨oc__law_first_right, od__law_first_right, .func (PySem.W.fnOf "_law_first_right" "_law_first_right" (defArgs s__law_first_right) (defBody s__law_first_right) (defScope s__law_first_right) .none kV__law_first_right dc__law_first_right pm__law_first_right an__law_first_right (.ref q__law_first_right) ct__law_first_right), sl__law_first_right⟩)
    (c__law_first_right : PySem.W.codeIn K (.ref q__law_first_right) "_law_first_right" = true)
    (k__law_first_right : PySem.W.keepIn K (.ref f__law_first_right) = true)
    (qk__law_first_right : K.lookup q__law_first_right = some ⟨ce__law_first_right, cdd__law_first_right, .fields cv__law_first_right, cs__law_first_right⟩)
    (qp__law_first_right : cv__law_first_right[11]? = some (.ref p__law_first_right))
    (qh__law_first_right : PySem.W.codeHdIn K q__law_first_right p__law_first_right = true)
    (qn__law_first_right : K.lookup p__law_first_right = none)
    (a__law_threes_promises : PySem.W.nsIn K mainGlobals "_law_threes_promises" = some (some (.ref f__law_threes_promises)))
    (l__law_threes_promises : K.lookup f__law_threes_promises = some ⟨oc__law_threes_promises, od__law_threes_promises, .func (PySem.W.fnOf "_law_threes_promises" "_law_threes_promises" (defArgs s__law_threes_promises) (defBody s__law_threes_promises) (defScope s__law_threes_promises) .none kV__law_threes_promises dc__law_threes_promises pm__law_threes_promises an__law_threes_promises cd__law_threes_promises ct__law_threes_promises), sl__law_threes_promises⟩)
    (c__law_threes_promises : PySem.W.codeIn K cd__law_threes_promises "_law_threes_promises" = true)
    (k__law_threes_promises : PySem.W.keepIn K (.ref f__law_threes_promises) = true)
    (a__law_promises_right : PySem.W.nsIn K mainGlobals "_law_promises_right" = some (some (.ref f__law_promises_right)))
    (l__law_promises_right : K.lookup f__law_promises_right = some ⟨oc__law_promises_right, od__law_promises_right, .func (PySem.W.fnOf "_law_promises_right" "_law_promises_right" (defArgs s__law_promises_right) (defBody s__law_promises_right) (defScope s__law_promises_right) .none kV__law_promises_right dc__law_promises_right pm__law_promises_right an__law_promises_right cd__law_promises_right ct__law_promises_right), sl__law_promises_right⟩)
    (c__law_promises_right : PySem.W.codeIn K cd__law_promises_right "_law_promises_right" = true)
    (k__law_promises_right : PySem.W.keepIn K (.ref f__law_promises_right) = true)
    (a__law_judged_promises : PySem.W.nsIn K mainGlobals "_law_judged_promises" = some (some (.ref f__law_judged_promises)))
    (l__law_judged_promises : K.lookup f__law_judged_promises = some ⟨oc__law_judged_promises, od__law_judged_promises, .func (PySem.W.fnOf "_law_judged_promises" "_law_judged_promises" (defArgs s__law_judged_promises) (defBody s__law_judged_promises) (defScope s__law_judged_promises) .none kV__law_judged_promises dc__law_judged_promises pm__law_judged_promises an__law_judged_promises cd__law_judged_promises ct__law_judged_promises), sl__law_judged_promises⟩)
    (c__law_judged_promises : PySem.W.codeIn K cd__law_judged_promises "_law_judged_promises" = true)
    (k__law_judged_promises : PySem.W.keepIn K (.ref f__law_judged_promises) = true)
    (a_law : PySem.W.nsIn K mainGlobals "law" = some (some (.ref f_law)))
    (l_law : K.lookup f_law = some ⟨oc_law, od_law, .func (PySem.W.fnOf "law" "law" (defArgs s_law) (defBody s_law) (defScope s_law) .none kV_law dc_law pm_law an_law cd_law ct_law), sl_law⟩)
    (c_law : PySem.W.codeIn K cd_law "law" = true)
    (k_law : PySem.W.keepIn K (.ref f_law) = true)
    (pne0 : p__law_known_right ≠ p__law_first_right)
    (p1_Can : PySem.W.plainGet K e_Can Str.empty = true)
    (p2_Can : PySem.W.hasDictIn K e_Can = true)
    (p3_Can : PySem.W.plainOver K e_Can = true)
    (p4_Can : PySem.W.findIn K (.ref e_Can) "__setattr__" = some (some (.builtin "object.__setattr__")))
    (p5_Can : PySem.W.findIn K (.ref e_Can) "__class__" = some (some (.builtin "object.__class__")))
    (p6_Can : PySem.W.specialIn K (.builtin "object.__class__") "__get__" = some (some (.builtin "getset_descriptor.__get__")))
    (p7_Can : PySem.W.takesIn K (.builtin "object.__class__") = some true)
    (p8_Can : PySem.W.mroIn K e_Can (.type "object") = some true)
    (p9_Can : PySem.W.makesIn K e_Can = true)
    (pk_Can : PySem.W.keepIn K (.ref e_Can) = true)
    (ni_Can : PySem.W.findIn K (.ref e_Can) "__init__" = some (some (.builtin "object.__init__")))
    (p1_Barred : PySem.W.plainGet K e_Barred Str.empty = true)
    (p2_Barred : PySem.W.hasDictIn K e_Barred = true)
    (p3_Barred : PySem.W.plainOver K e_Barred = true)
    (p4_Barred : PySem.W.findIn K (.ref e_Barred) "__setattr__" = some (some (.builtin "object.__setattr__")))
    (p5_Barred : PySem.W.findIn K (.ref e_Barred) "__class__" = some (some (.builtin "object.__class__")))
    (p6_Barred : PySem.W.specialIn K (.builtin "object.__class__") "__get__" = some (some (.builtin "getset_descriptor.__get__")))
    (p7_Barred : PySem.W.takesIn K (.builtin "object.__class__") = some true)
    (p8_Barred : PySem.W.mroIn K e_Barred (.type "object") = some true)
    (p9_Barred : PySem.W.makesIn K e_Barred = true)
    (pk_Barred : PySem.W.keepIn K (.ref e_Barred) = true)
    (ni_Barred : PySem.W.findIn K (.ref e_Barred) "__init__" = some (some (.builtin "object.__init__")))
    (p1_Good : PySem.W.plainGet K e_Good Str.empty = true)
    (p2_Good : PySem.W.hasDictIn K e_Good = true)
    (p3_Good : PySem.W.plainOver K e_Good = true)
    (p4_Good : PySem.W.findIn K (.ref e_Good) "__setattr__" = some (some (.builtin "object.__setattr__")))
    (p5_Good : PySem.W.findIn K (.ref e_Good) "__class__" = some (some (.builtin "object.__class__")))
    (p6_Good : PySem.W.specialIn K (.builtin "object.__class__") "__get__" = some (some (.builtin "getset_descriptor.__get__")))
    (p7_Good : PySem.W.takesIn K (.builtin "object.__class__") = some true)
    (p8_Good : PySem.W.mroIn K e_Good (.type "object") = some true)
    (p9_Good : PySem.W.makesIn K e_Good = true)
    (pk_Good : PySem.W.keepIn K (.ref e_Good) = true)
    (ni_Good : PySem.W.findIn K (.ref e_Good) "__init__" = some (some (.builtin "object.__init__")))
    (p1_Off : PySem.W.plainGet K e_Off Str.empty = true)
    (p2_Off : PySem.W.hasDictIn K e_Off = true)
    (p3_Off : PySem.W.plainOver K e_Off = true)
    (p4_Off : PySem.W.findIn K (.ref e_Off) "__setattr__" = some (some (.builtin "object.__setattr__")))
    (p5_Off : PySem.W.findIn K (.ref e_Off) "__class__" = some (some (.builtin "object.__class__")))
    (p6_Off : PySem.W.specialIn K (.builtin "object.__class__") "__get__" = some (some (.builtin "getset_descriptor.__get__")))
    (p7_Off : PySem.W.takesIn K (.builtin "object.__class__") = some true)
    (p8_Off : PySem.W.mroIn K e_Off (.type "object") = some true)
    (p9_Off : PySem.W.makesIn K e_Off = true)
    (pk_Off : PySem.W.keepIn K (.ref e_Off) = true)
    (na_Off : PySem.W.findIn K (.ref e_Off) "number" = some none)
    (x_PairError : PySem.W.excIn K e_PairError [.type "ValueError", .type "Exception", .type "BaseException", .type "object"] "ValueError.__new__" = true)
    (xk_PairError : PySem.W.keepIn K (.ref e_PairError) = true)
    (xs_PairError : PySem.W.subIn K (.ref e_PairError) (.type "BaseException") = some true)
    (xt_PairError : PySem.W.typeIn K (.ref e_PairError) = some (.type "type"))
    (xd_PairError : PySem.W.hasDictIn K e_PairError = true)
    (x_BadLast : PySem.W.excIn K e_BadLast [.type "ValueError", .type "Exception", .type "BaseException", .type "object"] "ValueError.__new__" = true)
    (xk_BadLast : PySem.W.keepIn K (.ref e_BadLast) = true)
    (xs_BadLast : PySem.W.subIn K (.ref e_BadLast) (.type "BaseException") = some true)
    (xt_BadLast : PySem.W.typeIn K (.ref e_BadLast) = some (.type "type"))
    (xd_BadLast : PySem.W.hasDictIn K e_BadLast = true)
    (yg_BadLast : PySem.W.findIn K (.ref e_BadLast) "__getattribute__" = some (some (.builtin "BaseException.__getattribute__")))
    (yh_BadLast : PySem.W.findIn K (.ref e_BadLast) "__getattr__" = some none)
    (ya_BadLast : PySem.W.findIn K (.ref e_BadLast) "__class__" = some (some (.builtin "object.__class__")))
    (yn_BadLast : PySem.W.specialIn K (.builtin "object.__class__") "__get__" = some (some (.builtin "getset_descriptor.__get__")))
    (yt_BadLast : PySem.W.takesIn K (.builtin "object.__class__") = some true)
    (ym_BadLast : PySem.W.mroIn K e_BadLast (.type "object") = some true)
    (yp_BadLast : PySem.W.subIn K (.ref e_BadLast) (.ref e_PairError) = some true)
    (kv_BadLast : PySem.W.kitOne K (.ref e_BadLast) (.type "ValueError") = some true)
    (x_BadNumber : PySem.W.excIn K e_BadNumber [.type "ValueError", .type "Exception", .type "BaseException", .type "object"] "ValueError.__new__" = true)
    (xk_BadNumber : PySem.W.keepIn K (.ref e_BadNumber) = true)
    (xs_BadNumber : PySem.W.subIn K (.ref e_BadNumber) (.type "BaseException") = some true)
    (xt_BadNumber : PySem.W.typeIn K (.ref e_BadNumber) = some (.type "type"))
    (xd_BadNumber : PySem.W.hasDictIn K e_BadNumber = true)
    (yg_BadNumber : PySem.W.findIn K (.ref e_BadNumber) "__getattribute__" = some (some (.builtin "BaseException.__getattribute__")))
    (yh_BadNumber : PySem.W.findIn K (.ref e_BadNumber) "__getattr__" = some none)
    (ya_BadNumber : PySem.W.findIn K (.ref e_BadNumber) "__class__" = some (some (.builtin "object.__class__")))
    (yn_BadNumber : PySem.W.specialIn K (.builtin "object.__class__") "__get__" = some (some (.builtin "getset_descriptor.__get__")))
    (yt_BadNumber : PySem.W.takesIn K (.builtin "object.__class__") = some true)
    (ym_BadNumber : PySem.W.mroIn K e_BadNumber (.type "object") = some true)
    (yp_BadNumber : PySem.W.subIn K (.ref e_BadNumber) (.ref e_PairError) = some true)
    (kv_BadNumber : PySem.W.kitOne K (.ref e_BadNumber) (.type "ValueError") = some true)
    (x_BadPlace : PySem.W.excIn K e_BadPlace [.type "ValueError", .type "Exception", .type "BaseException", .type "object"] "ValueError.__new__" = true)
    (xk_BadPlace : PySem.W.keepIn K (.ref e_BadPlace) = true)
    (xs_BadPlace : PySem.W.subIn K (.ref e_BadPlace) (.type "BaseException") = some true)
    (xt_BadPlace : PySem.W.typeIn K (.ref e_BadPlace) = some (.type "type"))
    (xd_BadPlace : PySem.W.hasDictIn K e_BadPlace = true)
    (yg_BadPlace : PySem.W.findIn K (.ref e_BadPlace) "__getattribute__" = some (some (.builtin "BaseException.__getattribute__")))
    (yh_BadPlace : PySem.W.findIn K (.ref e_BadPlace) "__getattr__" = some none)
    (ya_BadPlace : PySem.W.findIn K (.ref e_BadPlace) "__class__" = some (some (.builtin "object.__class__")))
    (yn_BadPlace : PySem.W.specialIn K (.builtin "object.__class__") "__get__" = some (some (.builtin "getset_descriptor.__get__")))
    (yt_BadPlace : PySem.W.takesIn K (.builtin "object.__class__") = some true)
    (ym_BadPlace : PySem.W.mroIn K e_BadPlace (.type "object") = some true)
    (yp_BadPlace : PySem.W.subIn K (.ref e_BadPlace) (.ref e_PairError) = some true)
    (kv_BadPlace : PySem.W.kitOne K (.ref e_BadPlace) (.type "ValueError") = some true)
    (x_BadRow : PySem.W.excIn K e_BadRow [.type "ValueError", .type "Exception", .type "BaseException", .type "object"] "ValueError.__new__" = true)
    (xk_BadRow : PySem.W.keepIn K (.ref e_BadRow) = true)
    (xs_BadRow : PySem.W.subIn K (.ref e_BadRow) (.type "BaseException") = some true)
    (xt_BadRow : PySem.W.typeIn K (.ref e_BadRow) = some (.type "type"))
    (xd_BadRow : PySem.W.hasDictIn K e_BadRow = true)
    (yg_BadRow : PySem.W.findIn K (.ref e_BadRow) "__getattribute__" = some (some (.builtin "BaseException.__getattribute__")))
    (yh_BadRow : PySem.W.findIn K (.ref e_BadRow) "__getattr__" = some none)
    (ya_BadRow : PySem.W.findIn K (.ref e_BadRow) "__class__" = some (some (.builtin "object.__class__")))
    (yn_BadRow : PySem.W.specialIn K (.builtin "object.__class__") "__get__" = some (some (.builtin "getset_descriptor.__get__")))
    (yt_BadRow : PySem.W.takesIn K (.builtin "object.__class__") = some true)
    (ym_BadRow : PySem.W.mroIn K e_BadRow (.type "object") = some true)
    (yp_BadRow : PySem.W.subIn K (.ref e_BadRow) (.ref e_PairError) = some true)
    (kv_BadRow : PySem.W.kitOne K (.ref e_BadRow) (.type "ValueError") = some true)
    (x_NoRow : PySem.W.excIn K e_NoRow [.type "ValueError", .type "Exception", .type "BaseException", .type "object"] "ValueError.__new__" = true)
    (xk_NoRow : PySem.W.keepIn K (.ref e_NoRow) = true)
    (xs_NoRow : PySem.W.subIn K (.ref e_NoRow) (.type "BaseException") = some true)
    (xt_NoRow : PySem.W.typeIn K (.ref e_NoRow) = some (.type "type"))
    (xd_NoRow : PySem.W.hasDictIn K e_NoRow = true)
    (yg_NoRow : PySem.W.findIn K (.ref e_NoRow) "__getattribute__" = some (some (.builtin "BaseException.__getattribute__")))
    (yh_NoRow : PySem.W.findIn K (.ref e_NoRow) "__getattr__" = some none)
    (ya_NoRow : PySem.W.findIn K (.ref e_NoRow) "__class__" = some (some (.builtin "object.__class__")))
    (yn_NoRow : PySem.W.specialIn K (.builtin "object.__class__") "__get__" = some (some (.builtin "getset_descriptor.__get__")))
    (yt_NoRow : PySem.W.takesIn K (.builtin "object.__class__") = some true)
    (ym_NoRow : PySem.W.mroIn K e_NoRow (.type "object") = some true)
    (yp_NoRow : PySem.W.subIn K (.ref e_NoRow) (.ref e_PairError) = some true)
    (kv_NoRow : PySem.W.kitOne K (.ref e_NoRow) (.type "ValueError") = some true)
    (z_GREATEST : PySem.W.nsIn K mainGlobals "GREATEST" = some (some (.int 100 t_GREATEST)))
    (z_FIRSTS : PySem.W.nsIn K mainGlobals "FIRSTS" = some (some (.ref e_FIRSTS)))
    (l_FIRSTS : K.lookup e_FIRSTS = some ⟨.type "dict", none, .dict #[⟨1, .int 1 t_F1, .ref e_F1⟩, ⟨4, .int 4 t_F4, .ref e_F4⟩, ⟨5, .int 5 t_F5, .ref e_F5⟩] n_F, #[]⟩)
    (l_F1 : K.lookup e_F1 = some ⟨.type "tuple", dd_F1, .seq #[.int 1 t_Fa0] n_F1, ss_F1⟩)
    (l_F4 : K.lookup e_F4 = some ⟨.type "tuple", dd_F4, .seq #[.int 1 t_Fa1, .int 5 t_Fa2, .int 3 t_Fa3, .int 4 t_Fa4] n_F4, ss_F4⟩)
    (l_F5 : K.lookup e_F5 = some ⟨.type "tuple", dd_F5, .seq #[.int 8 t_Fa5, .int 3 t_Fa6, .int 1 t_Fa7, .int 6 t_Fa8, .int 2 t_Fa9] n_F5, ss_F5⟩)
    (z_MOST : PySem.W.nsIn K mainGlobals "MOST" = some (some (.int 400 t_MOST)))
    (m_ValueError : PySem.W.nsIn K mainGlobals "ValueError" = some none)
    (m_abs : PySem.W.nsIn K mainGlobals "abs" = some none)
    (m_all : PySem.W.nsIn K mainGlobals "all" = some none)
    (m_any : PySem.W.nsIn K mainGlobals "any" = some none)
    (m_bool : PySem.W.nsIn K mainGlobals "bool" = some none)
    (m_int : PySem.W.nsIn K mainGlobals "int" = some none)
    (m_isinstance : PySem.W.nsIn K mainGlobals "isinstance" = some none)
    (m_len : PySem.W.nsIn K mainGlobals "len" = some none)
    (m_list : PySem.W.nsIn K mainGlobals "list" = some none)
    (m_range : PySem.W.nsIn K mainGlobals "range" = some none)
    (m_set : PySem.W.nsIn K mainGlobals "set" = some none)
    (m_sorted : PySem.W.nsIn K mainGlobals "sorted" = some none)
    (m_str : PySem.W.nsIn K mainGlobals "str" = some none)
    (m_sum : PySem.W.nsIn K mainGlobals "sum" = some none)
    (m_tuple : PySem.W.nsIn K mainGlobals "tuple" = some none)
    (m_zip : PySem.W.nsIn K mainGlobals "zip" = some none)
    (ke_BadLast_BadLast : PySem.W.kitOne K (.ref e_BadLast) (.ref e_BadLast) = some true)
    (ke_BadLast_BadNumber : PySem.W.kitOne K (.ref e_BadLast) (.ref e_BadNumber) = some false)
    (ke_BadLast_BadPlace : PySem.W.kitOne K (.ref e_BadLast) (.ref e_BadPlace) = some false)
    (ke_BadLast_BadRow : PySem.W.kitOne K (.ref e_BadLast) (.ref e_BadRow) = some false)
    (ke_BadLast_NoRow : PySem.W.kitOne K (.ref e_BadLast) (.ref e_NoRow) = some false)
    (ke_BadNumber_BadLast : PySem.W.kitOne K (.ref e_BadNumber) (.ref e_BadLast) = some false)
    (ke_BadNumber_BadNumber : PySem.W.kitOne K (.ref e_BadNumber) (.ref e_BadNumber) = some true)
    (ke_BadNumber_BadPlace : PySem.W.kitOne K (.ref e_BadNumber) (.ref e_BadPlace) = some false)
    (ke_BadNumber_BadRow : PySem.W.kitOne K (.ref e_BadNumber) (.ref e_BadRow) = some false)
    (ke_BadNumber_NoRow : PySem.W.kitOne K (.ref e_BadNumber) (.ref e_NoRow) = some false)
    (ke_BadPlace_BadLast : PySem.W.kitOne K (.ref e_BadPlace) (.ref e_BadLast) = some false)
    (ke_BadPlace_BadNumber : PySem.W.kitOne K (.ref e_BadPlace) (.ref e_BadNumber) = some false)
    (ke_BadPlace_BadPlace : PySem.W.kitOne K (.ref e_BadPlace) (.ref e_BadPlace) = some true)
    (ke_BadPlace_BadRow : PySem.W.kitOne K (.ref e_BadPlace) (.ref e_BadRow) = some false)
    (ke_BadPlace_NoRow : PySem.W.kitOne K (.ref e_BadPlace) (.ref e_NoRow) = some false)
    (ke_BadRow_BadLast : PySem.W.kitOne K (.ref e_BadRow) (.ref e_BadLast) = some false)
    (ke_BadRow_BadNumber : PySem.W.kitOne K (.ref e_BadRow) (.ref e_BadNumber) = some false)
    (ke_BadRow_BadPlace : PySem.W.kitOne K (.ref e_BadRow) (.ref e_BadPlace) = some false)
    (ke_BadRow_BadRow : PySem.W.kitOne K (.ref e_BadRow) (.ref e_BadRow) = some true)
    (ke_BadRow_NoRow : PySem.W.kitOne K (.ref e_BadRow) (.ref e_NoRow) = some false)
    (ke_NoRow_BadLast : PySem.W.kitOne K (.ref e_NoRow) (.ref e_BadLast) = some false)
    (ke_NoRow_BadNumber : PySem.W.kitOne K (.ref e_NoRow) (.ref e_BadNumber) = some false)
    (ke_NoRow_BadPlace : PySem.W.kitOne K (.ref e_NoRow) (.ref e_BadPlace) = some false)
    (ke_NoRow_BadRow : PySem.W.kitOne K (.ref e_NoRow) (.ref e_BadRow) = some false)
    (ke_NoRow_NoRow : PySem.W.kitOne K (.ref e_NoRow) (.ref e_NoRow) = some true)
    (kit_Can_Answer : PySem.W.kitOne K (.ref e_Can) (.ref e_Answer) = some true)
    (kit_Can_Can : PySem.W.kitOne K (.ref e_Can) (.ref e_Can) = some true)
    (kit_Can_Barred : PySem.W.kitOne K (.ref e_Can) (.ref e_Barred) = some false)
    (kit_Can_Good : PySem.W.kitOne K (.ref e_Can) (.ref e_Good) = some false)
    (kit_Can_Off : PySem.W.kitOne K (.ref e_Can) (.ref e_Off) = some false)
    (kit_Barred_Answer : PySem.W.kitOne K (.ref e_Barred) (.ref e_Answer) = some true)
    (kit_Barred_Can : PySem.W.kitOne K (.ref e_Barred) (.ref e_Can) = some false)
    (kit_Barred_Barred : PySem.W.kitOne K (.ref e_Barred) (.ref e_Barred) = some true)
    (kit_Barred_Good : PySem.W.kitOne K (.ref e_Barred) (.ref e_Good) = some false)
    (kit_Barred_Off : PySem.W.kitOne K (.ref e_Barred) (.ref e_Off) = some false)
    (kit_Good_Answer : PySem.W.kitOne K (.ref e_Good) (.ref e_Answer) = some true)
    (kit_Good_Can : PySem.W.kitOne K (.ref e_Good) (.ref e_Can) = some false)
    (kit_Good_Barred : PySem.W.kitOne K (.ref e_Good) (.ref e_Barred) = some false)
    (kit_Good_Good : PySem.W.kitOne K (.ref e_Good) (.ref e_Good) = some true)
    (kit_Good_Off : PySem.W.kitOne K (.ref e_Good) (.ref e_Off) = some false)
    (kit_Off_Answer : PySem.W.kitOne K (.ref e_Off) (.ref e_Answer) = some true)
    (kit_Off_Can : PySem.W.kitOne K (.ref e_Off) (.ref e_Can) = some false)
    (kit_Off_Barred : PySem.W.kitOne K (.ref e_Off) (.ref e_Barred) = some false)
    (kit_Off_Good : PySem.W.kitOne K (.ref e_Off) (.ref e_Good) = some false)
    (kit_Off_Off : PySem.W.kitOne K (.ref e_Off) (.ref e_Off) = some true) : Tx K mg := {
    a_Can_shows := f_Can_shows, d_Can_shows := _, F_Can_shows := fun_mk (st := s_Can_shows) l_Can_shows c_Can_shows k_Can_shows, b_Can_shows := (fun_mk (st := s_Can_shows) l_Can_shows c_Can_shows k_Can_shows).binds (ps := ["self", "last"]) fun _ _ _ _ _ _ us hl => match us, hl with | [_, _], _ => rfl,
    a_Barred_shows := f_Barred_shows, d_Barred_shows := _, F_Barred_shows := fun_mk (st := s_Barred_shows) l_Barred_shows c_Barred_shows k_Barred_shows, b_Barred_shows := (fun_mk (st := s_Barred_shows) l_Barred_shows c_Barred_shows k_Barred_shows).binds (ps := ["self", "last"]) fun _ _ _ _ _ _ us hl => match us, hl with | [_, _], _ => rfl,
    a_is_right := f_is_right, d_is_right := _, F_is_right := fun_mk (st := s_is_right) l_is_right c_is_right k_is_right, b_is_right := (fun_mk (st := s_is_right) l_is_right c_is_right k_is_right).binds (ps := ["row", "number"]) fun _ _ _ _ _ _ us hl => match us, hl with | [_, _], _ => rfl,
    g_is_right := PySem.W.mg_of X G a_is_right,
    a_Good_shows := f_Good_shows, d_Good_shows := _, F_Good_shows := fun_mk (st := s_Good_shows) l_Good_shows c_Good_shows k_Good_shows, b_Good_shows := (fun_mk (st := s_Good_shows) l_Good_shows c_Good_shows k_Good_shows).binds (ps := ["self", "row"]) fun _ _ _ _ _ _ us hl => match us, hl with | [_, _], _ => rfl,
    a_Off___init__ := f_Off___init__, d_Off___init__ := _, F_Off___init__ := fun_mk (st := s_Off___init__) l_Off___init__ c_Off___init__ k_Off___init__, b_Off___init__ := (fun_mk (st := s_Off___init__) l_Off___init__ c_Off___init__ k_Off___init__).binds (ps := ["self", "number"]) fun _ _ _ _ _ _ us hl => match us, hl with | [_, _], _ => rfl,
    a_Off_shows := f_Off_shows, d_Off_shows := _, F_Off_shows := fun_mk (st := s_Off_shows) l_Off_shows c_Off_shows k_Off_shows, b_Off_shows := (fun_mk (st := s_Off_shows) l_Off_shows c_Off_shows k_Off_shows).binds (ps := ["self", "row"]) fun _ _ _ _ _ _ us hl => match us, hl with | [_, _], _ => rfl,
    a_is_number := f_is_number, d_is_number := _, F_is_number := fun_mk (st := s_is_number) l_is_number c_is_number k_is_number, b_is_number := (fun_mk (st := s_is_number) l_is_number c_is_number k_is_number).binds (ps := ["thing"]) fun _ _ _ _ _ _ us hl => match us, hl with | [_], _ => rfl,
    g_is_number := PySem.W.mg_of X G a_is_number,
    a_asked_last := f_asked_last, d_asked_last := _, F_asked_last := fun_mk (st := s_asked_last) l_asked_last c_asked_last k_asked_last, b_asked_last := (fun_mk (st := s_asked_last) l_asked_last c_asked_last k_asked_last).binds (ps := ["last"]) fun _ _ _ _ _ _ us hl => match us, hl with | [_], _ => rfl,
    g_asked_last := PySem.W.mg_of X G a_asked_last,
    a_can := f_can, d_can := _, F_can := fun_mk (st := s_can) l_can c_can k_can, b_can := (fun_mk (st := s_can) l_can c_can k_can).binds (ps := ["last"]) fun _ _ _ _ _ _ us hl => match us, hl with | [_], _ => rfl,
    g_can := PySem.W.mg_of X G a_can,
    a_asked_row := f_asked_row, d_asked_row := _, F_asked_row := fun_mk (st := s_asked_row) l_asked_row c_asked_row k_asked_row, b_asked_row := (fun_mk (st := s_asked_row) l_asked_row c_asked_row k_asked_row).binds (ps := ["last"]) fun _ _ _ _ _ _ us hl => match us, hl with | [_], _ => rfl,
    g_asked_row := PySem.W.mg_of X G a_asked_row,
    a_first_by_fours := f_first_by_fours, d_first_by_fours := _, F_first_by_fours := fun_mk (st := s_first_by_fours) l_first_by_fours c_first_by_fours k_first_by_fours, b_first_by_fours := (fun_mk (st := s_first_by_fours) l_first_by_fours c_first_by_fours k_first_by_fours).binds (ps := ["part", "number"]) fun _ _ _ _ _ _ us hl => match us, hl with | [_, _], _ => rfl,
    g_first_by_fours := PySem.W.mg_of X G a_first_by_fours,
    a_first_by_ones := f_first_by_ones, d_first_by_ones := _, F_first_by_ones := fun_mk (st := s_first_by_ones) l_first_by_ones c_first_by_ones k_first_by_ones, b_first_by_ones := (fun_mk (st := s_first_by_ones) l_first_by_ones c_first_by_ones k_first_by_ones).binds (ps := ["part", "number"]) fun _ _ _ _ _ _ us hl => match us, hl with | [_, _], _ => rfl,
    g_first_by_ones := PySem.W.mg_of X G a_first_by_ones,
    a_first_of := f_first_of, d_first_of := _, F_first_of := fun_mk (st := s_first_of) l_first_of c_first_of k_first_of, b_first_of := (fun_mk (st := s_first_of) l_first_of c_first_of k_first_of).binds (ps := ["last", "number"]) fun _ _ _ _ _ _ us hl => match us, hl with | [_, _], _ => rfl,
    g_first_of := PySem.W.mg_of X G a_first_of,
    a_both := f_both, d_both := _, F_both := fun_mk (st := s_both) l_both c_both k_both, b_both := (fun_mk (st := s_both) l_both c_both k_both).binds (ps := ["last", "number"]) fun _ _ _ _ _ _ us hl => match us, hl with | [_, _], _ => rfl,
    g_both := PySem.W.mg_of X G a_both,
    a_places_of := f_places_of, d_places_of := _, F_places_of := fun_mk (st := s_places_of) l_places_of c_places_of k_places_of, b_places_of := (fun_mk (st := s_places_of) l_places_of c_places_of k_places_of).binds (ps := ["last", "number"]) fun _ _ _ _ _ _ us hl => match us, hl with | [_, _], _ => rfl,
    g_places_of := PySem.W.mg_of X G a_places_of,
    a_at_place := f_at_place, d_at_place := _, F_at_place := fun_mk (st := s_at_place) l_at_place c_at_place k_at_place, b_at_place := (fun_mk (st := s_at_place) l_at_place c_at_place k_at_place).binds (ps := ["last", "place"]) fun _ _ _ _ _ _ us hl => match us, hl with | [_, _], _ => rfl,
    g_at_place := PySem.W.mg_of X G a_at_place,
    a_number_at := f_number_at, d_number_at := _, F_number_at := fun_mk (st := s_number_at) l_number_at c_number_at k_number_at, b_number_at := (fun_mk (st := s_number_at) l_number_at c_number_at k_number_at).binds (ps := ["last", "place"]) fun _ _ _ _ _ _ us hl => match us, hl with | [_, _], _ => rfl,
    g_number_at := PySem.W.mg_of X G a_number_at,
    a_row := f_row, d_row := _, F_row := fun_mk (st := s_row) l_row c_row k_row, b_row := (fun_mk (st := s_row) l_row c_row k_row).binds (ps := ["last"]) fun _ _ _ _ _ _ us hl => match us, hl with | [_], _ => rfl,
    g_row := PySem.W.mg_of X G a_row,
    a_asked_list := f_asked_list, d_asked_list := _, F_asked_list := fun_mk (st := s_asked_list) l_asked_list c_asked_list k_asked_list, b_asked_list := (fun_mk (st := s_asked_list) l_asked_list c_asked_list k_asked_list).binds (ps := ["row"]) fun _ _ _ _ _ _ us hl => match us, hl with | [_], _ => rfl,
    g_asked_list := PySem.W.mg_of X G a_asked_list,
    a_told := f_told, d_told := _, F_told := fun_mk (st := s_told) l_told c_told k_told, b_told := (fun_mk (st := s_told) l_told c_told k_told).binds (ps := ["row"]) fun _ _ _ _ _ _ us hl => match us, hl with | [_], _ => rfl,
    g_told := PySem.W.mg_of X G a_told,
    a_mirrored := f_mirrored, d_mirrored := _, F_mirrored := fun_mk (st := s_mirrored) l_mirrored c_mirrored k_mirrored, b_mirrored := (fun_mk (st := s_mirrored) l_mirrored c_mirrored k_mirrored).binds (ps := ["row"]) fun _ _ _ _ _ _ us hl => match us, hl with | [_], _ => rfl,
    g_mirrored := PySem.W.mg_of X G a_mirrored,
    a_three_by := f_three_by, d_three_by := _, F_three_by := fun_mk (st := s_three_by) l_three_by c_three_by k_three_by, b_three_by := (fun_mk (st := s_three_by) l_three_by c_three_by k_three_by).binds (ps := ["last", "number"]) fun _ _ _ _ _ _ us hl => match us, hl with | [_, _], _ => rfl,
    g_three_by := PySem.W.mg_of X G a_three_by,
    a_three_of := f_three_of, d_three_of := _, F_three_of := fun_mk (st := s_three_of) l_three_of c_three_of k_three_of, b_three_of := (fun_mk (st := s_three_of) l_three_of c_three_of k_three_of).binds (ps := ["last", "number"]) fun _ _ _ _ _ _ us hl => match us, hl with | [_, _], _ => rfl,
    g_three_of := PySem.W.mg_of X G a_three_of,
    a__law_refused := f__law_refused, d__law_refused := _, F__law_refused := fun_mk (st := s__law_refused) l__law_refused c__law_refused k__law_refused, b__law_refused := (fun_mk (st := s__law_refused) l__law_refused c__law_refused k__law_refused).binds (ps := ["_law_ask", "_law_thing", "_law_due"]) fun _ _ _ _ _ _ us hl => match us, hl with | [_, _, _], _ => rfl,
    g__law_refused := PySem.W.mg_of X G a__law_refused,
    a__law_plain := f__law_plain, d__law_plain := _, F__law_plain := fun_mk (st := s__law_plain) l__law_plain c__law_plain k__law_plain, b__law_plain := (fun_mk (st := s__law_plain) l__law_plain c__law_plain k__law_plain).binds (ps := ["_law_thing"]) fun _ _ _ _ _ _ us hl => match us, hl with | [_], _ => rfl,
    g__law_plain := PySem.W.mg_of X G a__law_plain,
    a__law_truths := f__law_truths, d__law_truths := _, F__law_truths := fun_mk (st := s__law_truths) l__law_truths c__law_truths k__law_truths, b__law_truths := (fun_mk (st := s__law_truths) l__law_truths c__law_truths k__law_truths).binds (ps := ["_law_things"]) fun _ _ _ _ _ _ us hl => match us, hl with | [_], _ => rfl,
    g__law_truths := PySem.W.mg_of X G a__law_truths,
    a__law_long_right := f__law_long_right, d__law_long_right := _, F__law_long_right := fun_mk (st := s__law_long_right) l__law_long_right c__law_long_right k__law_long_right, b__law_long_right := (fun_mk (st := s__law_long_right) l__law_long_right c__law_long_right k__law_long_right).binds (ps := ["_law_whole"]) fun _ _ _ _ _ _ us hl => match us, hl with | [_], _ => rfl,
    g__law_long_right := PySem.W.mg_of X G a__law_long_right,
    a__law_known_right := f__law_known_right, d__law_known_right := _, F__law_known_right := fun_mk (st := s__law_known_right) l__law_known_right c__law_known_right k__law_known_right, b__law_known_right := (fun_mk (st := s__law_known_right) l__law_known_right c__law_known_right k__law_known_right).binds (ps := ["_law_rest"]) fun _ _ _ _ _ _ us hl => match us, hl with | [_], _ => rfl,
    g__law_known_right := PySem.W.mg_of X G a__law_known_right,
    q__law_known_right := q__law_known_right, p__law_known_right := p__law_known_right, C__law_known_right := func_mk (st := s__law_known_right) l__law_known_right c__law_known_right,
    a__law_first_right := f__law_first_right, d__law_first_right := _, F__law_first_right := fun_mk (st := s__law_first_right) l__law_first_right c__law_first_right k__law_first_right, b__law_first_right := (fun_mk (st := s__law_first_right) l__law_first_right c__law_first_right k__law_first_right).binds (ps := ["_law_whole"]) fun _ _ _ _ _ _ us hl => match us, hl with | [_], _ => rfl,
    g__law_first_right := PySem.W.mg_of X G a__law_first_right,
    q__law_first_right := q__law_first_right, p__law_first_right := p__law_first_right, C__law_first_right := func_mk (st := s__law_first_right) l__law_first_right c__law_first_right,
    a__law_threes_promises := f__law_threes_promises, d__law_threes_promises := _, F__law_threes_promises := fun_mk (st := s__law_threes_promises) l__law_threes_promises c__law_threes_promises k__law_threes_promises, b__law_threes_promises := (fun_mk (st := s__law_threes_promises) l__law_threes_promises c__law_threes_promises k__law_threes_promises).binds (ps := ["_law_last"]) fun _ _ _ _ _ _ us hl => match us, hl with | [_], _ => rfl,
    g__law_threes_promises := PySem.W.mg_of X G a__law_threes_promises,
    a__law_promises_right := f__law_promises_right, d__law_promises_right := _, F__law_promises_right := fun_mk (st := s__law_promises_right) l__law_promises_right c__law_promises_right k__law_promises_right, b__law_promises_right := (fun_mk (st := s__law_promises_right) l__law_promises_right c__law_promises_right k__law_promises_right).binds (ps := []) fun _ _ _ _ _ _ us hl => match us, hl with | [], _ => rfl,
    g__law_promises_right := PySem.W.mg_of X G a__law_promises_right,
    a__law_judged_promises := f__law_judged_promises, d__law_judged_promises := _, F__law_judged_promises := fun_mk (st := s__law_judged_promises) l__law_judged_promises c__law_judged_promises k__law_judged_promises, b__law_judged_promises := (fun_mk (st := s__law_judged_promises) l__law_judged_promises c__law_judged_promises k__law_judged_promises).binds (ps := []) fun _ _ _ _ _ _ us hl => match us, hl with | [], _ => rfl,
    g__law_judged_promises := PySem.W.mg_of X G a__law_judged_promises,
    a_law := f_law, d_law := _, F_law := fun_mk (st := s_law) l_law c_law k_law, b_law := (fun_mk (st := s_law) l_law c_law k_law).binds (ps := ["_law_script"]) fun _ _ _ _ _ _ us hl => match us, hl with | [_], _ => rfl,
    g_law := PySem.W.mg_of X G a_law,
    pne0 := pne0,
    c_Answer := e_Answer, g_Answer := PySem.W.mg_of X G z_Answer,
    c_Can := e_Can, g_Can := PySem.W.mg_of X G z_Can,
    i_Can := ⟨⟨p1_Can, p2_Can, p3_Can, p4_Can⟩, p5_Can, p6_Can, p7_Can, p8_Can⟩,
    n_Can := ⟨p9_Can, ni_Can, pk_Can⟩,
    s_Can := ⟨a_Can_shows, i_Can_shows, k_Can_shows⟩,
    c_Barred := e_Barred, g_Barred := PySem.W.mg_of X G z_Barred,
    i_Barred := ⟨⟨p1_Barred, p2_Barred, p3_Barred, p4_Barred⟩, p5_Barred, p6_Barred, p7_Barred, p8_Barred⟩,
    n_Barred := ⟨p9_Barred, ni_Barred, pk_Barred⟩,
    s_Barred := ⟨a_Barred_shows, i_Barred_shows, k_Barred_shows⟩,
    c_Good := e_Good, g_Good := PySem.W.mg_of X G z_Good,
    i_Good := ⟨⟨p1_Good, p2_Good, p3_Good, p4_Good⟩, p5_Good, p6_Good, p7_Good, p8_Good⟩,
    n_Good := ⟨p9_Good, ni_Good, pk_Good⟩,
    s_Good := ⟨a_Good_shows, i_Good_shows, k_Good_shows⟩,
    c_Off := e_Off, g_Off := PySem.W.mg_of X G z_Off,
    i_Off := ⟨⟨p1_Off, p2_Off, p3_Off, p4_Off⟩, p5_Off, p6_Off, p7_Off, p8_Off⟩,
    na_Off_number := na_Off,
    n_Off := ⟨p9_Off, a_Off___init__, i_Off___init__, pk_Off⟩,
    s_Off := ⟨a_Off_shows, i_Off_shows, k_Off_shows⟩,
    c_PairError := e_PairError, g_PairError := PySem.W.mg_of X G z_PairError,
    x_PairError := ⟨x_PairError, xk_PairError, xs_PairError, xt_PairError⟩,
    c_BadLast := e_BadLast, g_BadLast := PySem.W.mg_of X G z_BadLast,
    x_BadLast := ⟨x_BadLast, xk_BadLast, xs_BadLast, xt_BadLast⟩,
    y_BadLast := ⟨yg_BadLast, yh_BadLast, xs_BadLast, xd_BadLast, ya_BadLast, yn_BadLast, yt_BadLast, ym_BadLast⟩,
    em_BadLast := PySem.W.exm_ref xs_PairError xd_PairError xt_PairError yp_BadLast,
    kv_BadLast := kv_BadLast,
    c_BadNumber := e_BadNumber, g_BadNumber := PySem.W.mg_of X G z_BadNumber,
    x_BadNumber := ⟨x_BadNumber, xk_BadNumber, xs_BadNumber, xt_BadNumber⟩,
    y_BadNumber := ⟨yg_BadNumber, yh_BadNumber, xs_BadNumber, xd_BadNumber, ya_BadNumber, yn_BadNumber, yt_BadNumber, ym_BadNumber⟩,
    em_BadNumber := PySem.W.exm_ref xs_PairError xd_PairError xt_PairError yp_BadNumber,
    kv_BadNumber := kv_BadNumber,
    c_BadPlace := e_BadPlace, g_BadPlace := PySem.W.mg_of X G z_BadPlace,
    x_BadPlace := ⟨x_BadPlace, xk_BadPlace, xs_BadPlace, xt_BadPlace⟩,
    y_BadPlace := ⟨yg_BadPlace, yh_BadPlace, xs_BadPlace, xd_BadPlace, ya_BadPlace, yn_BadPlace, yt_BadPlace, ym_BadPlace⟩,
    em_BadPlace := PySem.W.exm_ref xs_PairError xd_PairError xt_PairError yp_BadPlace,
    kv_BadPlace := kv_BadPlace,
    c_BadRow := e_BadRow, g_BadRow := PySem.W.mg_of X G z_BadRow,
    x_BadRow := ⟨x_BadRow, xk_BadRow, xs_BadRow, xt_BadRow⟩,
    y_BadRow := ⟨yg_BadRow, yh_BadRow, xs_BadRow, xd_BadRow, ya_BadRow, yn_BadRow, yt_BadRow, ym_BadRow⟩,
    em_BadRow := PySem.W.exm_ref xs_PairError xd_PairError xt_PairError yp_BadRow,
    kv_BadRow := kv_BadRow,
    c_NoRow := e_NoRow, g_NoRow := PySem.W.mg_of X G z_NoRow,
    x_NoRow := ⟨x_NoRow, xk_NoRow, xs_NoRow, xt_NoRow⟩,
    y_NoRow := ⟨yg_NoRow, yh_NoRow, xs_NoRow, xd_NoRow, ya_NoRow, yn_NoRow, yt_NoRow, ym_NoRow⟩,
    em_NoRow := PySem.W.exm_ref xs_PairError xd_PairError xt_PairError yp_NoRow,
    kv_NoRow := kv_NoRow,
    t_GREATEST := t_GREATEST, c_GREATEST := PySem.W.mg_of X G z_GREATEST,
    c_FIRSTS := e_FIRSTS, g_FIRSTS := PySem.W.mg_of X G z_FIRSTS, k_FIRSTS := firsts_mk l_FIRSTS l_F1 l_F4 l_F5,
    t_MOST := t_MOST, c_MOST := PySem.W.mg_of X G z_MOST,
    m_ValueError := PySem.W.mg_none_of X G m_ValueError,
    m_abs := PySem.W.mg_none_of X G m_abs,
    m_all := PySem.W.mg_none_of X G m_all,
    m_any := PySem.W.mg_none_of X G m_any,
    m_bool := PySem.W.mg_none_of X G m_bool,
    m_int := PySem.W.mg_none_of X G m_int,
    m_isinstance := PySem.W.mg_none_of X G m_isinstance,
    m_len := PySem.W.mg_none_of X G m_len,
    m_list := PySem.W.mg_none_of X G m_list,
    m_range := PySem.W.mg_none_of X G m_range,
    m_set := PySem.W.mg_none_of X G m_set,
    m_sorted := PySem.W.mg_none_of X G m_sorted,
    m_str := PySem.W.mg_none_of X G m_str,
    m_sum := PySem.W.mg_none_of X G m_sum,
    m_tuple := PySem.W.mg_none_of X G m_tuple,
    m_zip := PySem.W.mg_none_of X G m_zip,
    ke_BadLast_BadLast := ke_BadLast_BadLast,
    ke_BadLast_BadNumber := ke_BadLast_BadNumber,
    ke_BadLast_BadPlace := ke_BadLast_BadPlace,
    ke_BadLast_BadRow := ke_BadLast_BadRow,
    ke_BadLast_NoRow := ke_BadLast_NoRow,
    ke_BadNumber_BadLast := ke_BadNumber_BadLast,
    ke_BadNumber_BadNumber := ke_BadNumber_BadNumber,
    ke_BadNumber_BadPlace := ke_BadNumber_BadPlace,
    ke_BadNumber_BadRow := ke_BadNumber_BadRow,
    ke_BadNumber_NoRow := ke_BadNumber_NoRow,
    ke_BadPlace_BadLast := ke_BadPlace_BadLast,
    ke_BadPlace_BadNumber := ke_BadPlace_BadNumber,
    ke_BadPlace_BadPlace := ke_BadPlace_BadPlace,
    ke_BadPlace_BadRow := ke_BadPlace_BadRow,
    ke_BadPlace_NoRow := ke_BadPlace_NoRow,
    ke_BadRow_BadLast := ke_BadRow_BadLast,
    ke_BadRow_BadNumber := ke_BadRow_BadNumber,
    ke_BadRow_BadPlace := ke_BadRow_BadPlace,
    ke_BadRow_BadRow := ke_BadRow_BadRow,
    ke_BadRow_NoRow := ke_BadRow_NoRow,
    ke_NoRow_BadLast := ke_NoRow_BadLast,
    ke_NoRow_BadNumber := ke_NoRow_BadNumber,
    ke_NoRow_BadPlace := ke_NoRow_BadPlace,
    ke_NoRow_BadRow := ke_NoRow_BadRow,
    ke_NoRow_NoRow := ke_NoRow_NoRow,
    kit_Can_Answer := kit_Can_Answer,
    kit_Can_Can := kit_Can_Can,
    kit_Can_Barred := kit_Can_Barred,
    kit_Can_Good := kit_Can_Good,
    kit_Can_Off := kit_Can_Off,
    kit_Barred_Answer := kit_Barred_Answer,
    kit_Barred_Can := kit_Barred_Can,
    kit_Barred_Barred := kit_Barred_Barred,
    kit_Barred_Good := kit_Barred_Good,
    kit_Barred_Off := kit_Barred_Off,
    kit_Good_Answer := kit_Good_Answer,
    kit_Good_Can := kit_Good_Can,
    kit_Good_Barred := kit_Good_Barred,
    kit_Good_Good := kit_Good_Good,
    kit_Good_Off := kit_Good_Off,
    kit_Off_Answer := kit_Off_Answer,
    kit_Off_Can := kit_Off_Can,
    kit_Off_Barred := kit_Off_Barred,
    kit_Off_Good := kit_Off_Good,
    kit_Off_Off := kit_Off_Off }
theorem all_mk {l : PySem.W.OpenLaw} {w : World} {K : PySem.W.Frag} {h : Heap} {mg : Str → Option Value} {fa e_Answer e_Can e_Barred e_Good e_Off e_PairError e_BadLast e_BadNumber e_BadPlace e_BadRow e_NoRow f_Can_shows f_Barred_shows f_is_right f_Good_shows f_Off___init__ f_Off_shows f_is_number f_asked_last f_can f_asked_row f_first_by_fours f_first_by_ones f_first_of f_both f_places_of f_at_place f_number_at f_row f_asked_list f_told f_mirrored f_three_by f_three_of f__law_refused f__law_plain f__law_truths f__law_long_right f__law_known_right q__law_known_right p__law_known_right f__law_first_right q__law_first_right p__law_first_right f__law_threes_promises f__law_promises_right f__law_judged_promises f_law e_FIRSTS e_F1 e_F4 e_F5 : Addr} {t_GREATEST t_F1 t_F4 t_F5 t_Fa0 t_Fa1 t_Fa2 t_Fa3 t_Fa4 t_Fa5 t_Fa6 t_Fa7 t_Fa8 t_Fa9 t_MOST : Tok} (tabs : ∀ y ∈ (["_law_known_right", "_law_first_right"] : List Str), TabAt K mg h y) (X : K.In h) (G : h.Ns mainGlobals mg) (hfa : mg "law" = some (.ref fa))
    {oc_Can_shows kV_Can_shows dc_Can_shows pm_Can_shows cd_Can_shows ct_Can_shows : Value} {od_Can_shows an_Can_shows : Option Addr} {sl_Can_shows : Array (Option Value)}
    {oc_Barred_shows kV_Barred_shows dc_Barred_shows pm_Barred_shows cd_Barred_shows ct_Barred_shows : Value} {od_Barred_shows an_Barred_shows : Option Addr} {sl_Barred_shows : Array (Option Value)}
    {oc_is_right kV_is_right dc_is_right pm_is_right cd_is_right ct_is_right : Value} {od_is_right an_is_right : Option Addr} {sl_is_right : Array (Option Value)}
    {oc_Good_shows kV_Good_shows dc_Good_shows pm_Good_shows cd_Good_shows ct_Good_shows : Value} {od_Good_shows an_Good_shows : Option Addr} {sl_Good_shows : Array (Option Value)}
    {oc_Off___init__ kV_Off___init__ dc_Off___init__ pm_Off___init__ cd_Off___init__ ct_Off___init__ : Value} {od_Off___init__ an_Off___init__ : Option Addr} {sl_Off___init__ : Array (Option Value)}
    {oc_Off_shows kV_Off_shows dc_Off_shows pm_Off_shows cd_Off_shows ct_Off_shows : Value} {od_Off_shows an_Off_shows : Option Addr} {sl_Off_shows : Array (Option Value)}
    {oc_is_number kV_is_number dc_is_number pm_is_number cd_is_number ct_is_number : Value} {od_is_number an_is_number : Option Addr} {sl_is_number : Array (Option Value)}
    {oc_asked_last kV_asked_last dc_asked_last pm_asked_last cd_asked_last ct_asked_last : Value} {od_asked_last an_asked_last : Option Addr} {sl_asked_last : Array (Option Value)}
    {oc_can kV_can dc_can pm_can cd_can ct_can : Value} {od_can an_can : Option Addr} {sl_can : Array (Option Value)}
    {oc_asked_row kV_asked_row dc_asked_row pm_asked_row cd_asked_row ct_asked_row : Value} {od_asked_row an_asked_row : Option Addr} {sl_asked_row : Array (Option Value)}
    {oc_first_by_fours kV_first_by_fours dc_first_by_fours pm_first_by_fours cd_first_by_fours ct_first_by_fours : Value} {od_first_by_fours an_first_by_fours : Option Addr} {sl_first_by_fours : Array (Option Value)}
    {oc_first_by_ones kV_first_by_ones dc_first_by_ones pm_first_by_ones cd_first_by_ones ct_first_by_ones : Value} {od_first_by_ones an_first_by_ones : Option Addr} {sl_first_by_ones : Array (Option Value)}
    {oc_first_of kV_first_of dc_first_of pm_first_of cd_first_of ct_first_of : Value} {od_first_of an_first_of : Option Addr} {sl_first_of : Array (Option Value)}
    {oc_both kV_both dc_both pm_both cd_both ct_both : Value} {od_both an_both : Option Addr} {sl_both : Array (Option Value)}
    {oc_places_of kV_places_of dc_places_of pm_places_of cd_places_of ct_places_of : Value} {od_places_of an_places_of : Option Addr} {sl_places_of : Array (Option Value)}
    {oc_at_place kV_at_place dc_at_place pm_at_place cd_at_place ct_at_place : Value} {od_at_place an_at_place : Option Addr} {sl_at_place : Array (Option Value)}
    {oc_number_at kV_number_at dc_number_at pm_number_at cd_number_at ct_number_at : Value} {od_number_at an_number_at : Option Addr} {sl_number_at : Array (Option Value)}
    {oc_row kV_row dc_row pm_row cd_row ct_row : Value} {od_row an_row : Option Addr} {sl_row : Array (Option Value)}
    {oc_asked_list kV_asked_list dc_asked_list pm_asked_list cd_asked_list ct_asked_list : Value} {od_asked_list an_asked_list : Option Addr} {sl_asked_list : Array (Option Value)}
    {oc_told kV_told dc_told pm_told cd_told ct_told : Value} {od_told an_told : Option Addr} {sl_told : Array (Option Value)}
    {oc_mirrored kV_mirrored dc_mirrored pm_mirrored cd_mirrored ct_mirrored : Value} {od_mirrored an_mirrored : Option Addr} {sl_mirrored : Array (Option Value)}
    {oc_three_by kV_three_by dc_three_by pm_three_by cd_three_by ct_three_by : Value} {od_three_by an_three_by : Option Addr} {sl_three_by : Array (Option Value)}
    {oc_three_of kV_three_of dc_three_of pm_three_of cd_three_of ct_three_of : Value} {od_three_of an_three_of : Option Addr} {sl_three_of : Array (Option Value)}
    {oc__law_refused kV__law_refused dc__law_refused pm__law_refused cd__law_refused ct__law_refused : Value} {od__law_refused an__law_refused : Option Addr} {sl__law_refused : Array (Option Value)}
    {oc__law_plain kV__law_plain dc__law_plain pm__law_plain cd__law_plain ct__law_plain : Value} {od__law_plain an__law_plain : Option Addr} {sl__law_plain : Array (Option Value)}
    {oc__law_truths kV__law_truths dc__law_truths pm__law_truths cd__law_truths ct__law_truths : Value} {od__law_truths an__law_truths : Option Addr} {sl__law_truths : Array (Option Value)}
    {oc__law_long_right kV__law_long_right dc__law_long_right pm__law_long_right cd__law_long_right ct__law_long_right : Value} {od__law_long_right an__law_long_right : Option Addr} {sl__law_long_right : Array (Option Value)}
    {oc__law_known_right kV__law_known_right dc__law_known_right pm__law_known_right ct__law_known_right : Value} {od__law_known_right an__law_known_right : Option Addr} {sl__law_known_right : Array (Option Value)}
    {ce__law_known_right : Value} {cdd__law_known_right : Option Addr} {cv__law_known_right : Array Value} {cs__law_known_right : Array (Option Value)}
    {oc__law_first_right kV__law_first_right dc__law_first_right pm__law_first_right ct__law_first_right : Value} {od__law_first_right an__law_first_right : Option Addr} {sl__law_first_right : Array (Option Value)}
    {ce__law_first_right : Value} {cdd__law_first_right : Option Addr} {cv__law_first_right : Array Value} {cs__law_first_right : Array (Option Value)}
    {oc__law_threes_promises kV__law_threes_promises dc__law_threes_promises pm__law_threes_promises cd__law_threes_promises ct__law_threes_promises : Value} {od__law_threes_promises an__law_threes_promises : Option Addr} {sl__law_threes_promises : Array (Option Value)}
    {oc__law_promises_right kV__law_promises_right dc__law_promises_right pm__law_promises_right cd__law_promises_right ct__law_promises_right : Value} {od__law_promises_right an__law_promises_right : Option Addr} {sl__law_promises_right : Array (Option Value)}
    {oc__law_judged_promises kV__law_judged_promises dc__law_judged_promises pm__law_judged_promises cd__law_judged_promises ct__law_judged_promises : Value} {od__law_judged_promises an__law_judged_promises : Option Addr} {sl__law_judged_promises : Array (Option Value)}
    {oc_law kV_law dc_law pm_law cd_law ct_law : Value} {od_law an_law : Option Addr} {sl_law : Array (Option Value)}
    {n_F n_F1 n_F4 n_F5 : Nat} {dd_F1 dd_F4 dd_F5 : Option Addr} {ss_F1 ss_F4 ss_F5 : Array (Option Value)}
    (z_Answer : PySem.W.nsIn K mainGlobals "Answer" = some (some (.ref e_Answer)))
    (z_Can : PySem.W.nsIn K mainGlobals "Can" = some (some (.ref e_Can)))
    (z_Barred : PySem.W.nsIn K mainGlobals "Barred" = some (some (.ref e_Barred)))
    (z_Good : PySem.W.nsIn K mainGlobals "Good" = some (some (.ref e_Good)))
    (z_Off : PySem.W.nsIn K mainGlobals "Off" = some (some (.ref e_Off)))
    (z_PairError : PySem.W.nsIn K mainGlobals "PairError" = some (some (.ref e_PairError)))
    (z_BadLast : PySem.W.nsIn K mainGlobals "BadLast" = some (some (.ref e_BadLast)))
    (z_BadNumber : PySem.W.nsIn K mainGlobals "BadNumber" = some (some (.ref e_BadNumber)))
    (z_BadPlace : PySem.W.nsIn K mainGlobals "BadPlace" = some (some (.ref e_BadPlace)))
    (z_BadRow : PySem.W.nsIn K mainGlobals "BadRow" = some (some (.ref e_BadRow)))
    (z_NoRow : PySem.W.nsIn K mainGlobals "NoRow" = some (some (.ref e_NoRow)))
    (a_Can_shows : PySem.W.findIn K (.ref e_Can) "shows" = some (some (.ref f_Can_shows)))
    (i_Can_shows : PySem.W.isFn K (.ref f_Can_shows) = true)
    (l_Can_shows : K.lookup f_Can_shows = some ⟨oc_Can_shows, od_Can_shows, .func (PySem.W.fnOf "shows" "Can.shows" (defArgs s_Can_shows) (defBody s_Can_shows) (defScope s_Can_shows) .none kV_Can_shows dc_Can_shows pm_Can_shows an_Can_shows cd_Can_shows ct_Can_shows), sl_Can_shows⟩)
    (c_Can_shows : PySem.W.codeIn K cd_Can_shows "Can.shows" = true)
    (k_Can_shows : PySem.W.keepIn K (.ref f_Can_shows) = true)
    (a_Barred_shows : PySem.W.findIn K (.ref e_Barred) "shows" = some (some (.ref f_Barred_shows)))
    (i_Barred_shows : PySem.W.isFn K (.ref f_Barred_shows) = true)
    (l_Barred_shows : K.lookup f_Barred_shows = some ⟨oc_Barred_shows, od_Barred_shows, .func (PySem.W.fnOf "shows" "Barred.shows" (defArgs s_Barred_shows) (defBody s_Barred_shows) (defScope s_Barred_shows) .none kV_Barred_shows dc_Barred_shows pm_Barred_shows an_Barred_shows cd_Barred_shows ct_Barred_shows), sl_Barred_shows⟩)
    (c_Barred_shows : PySem.W.codeIn K cd_Barred_shows "Barred.shows" = true)
    (k_Barred_shows : PySem.W.keepIn K (.ref f_Barred_shows) = true)
    (a_is_right : PySem.W.nsIn K mainGlobals "is_right" = some (some (.ref f_is_right)))
    (l_is_right : K.lookup f_is_right = some ⟨oc_is_right, od_is_right, .func (PySem.W.fnOf "is_right" "is_right" (defArgs s_is_right) (defBody s_is_right) (defScope s_is_right) .none kV_is_right dc_is_right pm_is_right an_is_right cd_is_right ct_is_right), sl_is_right⟩)
    (c_is_right : PySem.W.codeIn K cd_is_right "is_right" = true)
    (k_is_right : PySem.W.keepIn K (.ref f_is_right) = true)
    (a_Good_shows : PySem.W.findIn K (.ref e_Good) "shows" = some (some (.ref f_Good_shows)))
    (i_Good_shows : PySem.W.isFn K (.ref f_Good_shows) = true)
    (l_Good_shows : K.lookup f_Good_shows = some ⟨oc_Good_shows, od_Good_shows, .func (PySem.W.fnOf "shows" "Good.shows" (defArgs s_Good_shows) (defBody s_Good_shows) (defScope s_Good_shows) .none kV_Good_shows dc_Good_shows pm_Good_shows an_Good_shows cd_Good_shows ct_Good_shows), sl_Good_shows⟩)
    (c_Good_shows : PySem.W.codeIn K cd_Good_shows "Good.shows" = true)
    (k_Good_shows : PySem.W.keepIn K (.ref f_Good_shows) = true)
    (a_Off___init__ : PySem.W.findIn K (.ref e_Off) "__init__" = some (some (.ref f_Off___init__)))
    (i_Off___init__ : PySem.W.isFn K (.ref f_Off___init__) = true)
    (l_Off___init__ : K.lookup f_Off___init__ = some ⟨oc_Off___init__, od_Off___init__, .func (PySem.W.fnOf "__init__" "Off.__init__" (defArgs s_Off___init__) (defBody s_Off___init__) (defScope s_Off___init__) .none kV_Off___init__ dc_Off___init__ pm_Off___init__ an_Off___init__ cd_Off___init__ ct_Off___init__), sl_Off___init__⟩)
    (c_Off___init__ : PySem.W.codeIn K cd_Off___init__ "Off.__init__" = true)
    (k_Off___init__ : PySem.W.keepIn K (.ref f_Off___init__) = true)
    (a_Off_shows : PySem.W.findIn K (.ref e_Off) "shows" = some (some (.ref f_Off_shows)))
    (i_Off_shows : PySem.W.isFn K (.ref f_Off_shows) = true)
    (l_Off_shows : K.lookup f_Off_shows = some ⟨oc_Off_shows, od_Off_shows, .func (PySem.W.fnOf "shows" "Off.shows" (defArgs s_Off_shows) (defBody s_Off_shows) (defScope s_Off_shows) .none kV_Off_shows dc_Off_shows pm_Off_shows an_Off_shows cd_Off_shows ct_Off_shows), sl_Off_shows⟩)
    (c_Off_shows : PySem.W.codeIn K cd_Off_shows "Off.shows" = true)
    (k_Off_shows : PySem.W.keepIn K (.ref f_Off_shows) = true)
    (a_is_number : PySem.W.nsIn K mainGlobals "is_number" = some (some (.ref f_is_number)))
    (l_is_number : K.lookup f_is_number = some ⟨oc_is_number, od_is_number, .func (PySem.W.fnOf "is_number" "is_number" (defArgs s_is_number) (defBody s_is_number) (defScope s_is_number) .none kV_is_number dc_is_number pm_is_number an_is_number cd_is_number ct_is_number), sl_is_number⟩)
    (c_is_number : PySem.W.codeIn K cd_is_number "is_number" = true)
    (k_is_number : PySem.W.keepIn K (.ref f_is_number) = true)
    (a_asked_last : PySem.W.nsIn K mainGlobals "asked_last" = some (some (.ref f_asked_last)))
    (l_asked_last : K.lookup f_asked_last = some ⟨oc_asked_last, od_asked_last, .func (PySem.W.fnOf "asked_last" "asked_last" (defArgs s_asked_last) (defBody s_asked_last) (defScope s_asked_last) .none kV_asked_last dc_asked_last pm_asked_last an_asked_last cd_asked_last ct_asked_last), sl_asked_last⟩)
    (c_asked_last : PySem.W.codeIn K cd_asked_last "asked_last" = true)
    (k_asked_last : PySem.W.keepIn K (.ref f_asked_last) = true)
    (a_can : PySem.W.nsIn K mainGlobals "can" = some (some (.ref f_can)))
    (l_can : K.lookup f_can = some ⟨oc_can, od_can, .func (PySem.W.fnOf "can" "can" (defArgs s_can) (defBody s_can) (defScope s_can) .none kV_can dc_can pm_can an_can cd_can ct_can), sl_can⟩)
    (c_can : PySem.W.codeIn K cd_can "can" = true)
    (k_can : PySem.W.keepIn K (.ref f_can) = true)
    (a_asked_row : PySem.W.nsIn K mainGlobals "asked_row" = some (some (.ref f_asked_row)))
    (l_asked_row : K.lookup f_asked_row = some ⟨oc_asked_row, od_asked_row, .func (PySem.W.fnOf "asked_row" "asked_row" (defArgs s_asked_row) (defBody s_asked_row) (defScope s_asked_row) .none kV_asked_row dc_asked_row pm_asked_row an_asked_row cd_asked_row ct_asked_row), sl_asked_row⟩)
    (c_asked_row : PySem.W.codeIn K cd_asked_row "asked_row" = true)
    (k_asked_row : PySem.W.keepIn K (.ref f_asked_row) = true)
    (a_first_by_fours : PySem.W.nsIn K mainGlobals "first_by_fours" = some (some (.ref f_first_by_fours)))
    (l_first_by_fours : K.lookup f_first_by_fours = some ⟨oc_first_by_fours, od_first_by_fours, .func (PySem.W.fnOf "first_by_fours" "first_by_fours" (defArgs s_first_by_fours) (defBody s_first_by_fours) (defScope s_first_by_fours) .none kV_first_by_fours dc_first_by_fours pm_first_by_fours an_first_by_fours cd_first_by_fours ct_first_by_fours), sl_first_by_fours⟩)
    (c_first_by_fours : PySem.W.codeIn K cd_first_by_fours "first_by_fours" = true)
    (k_first_by_fours : PySem.W.keepIn K (.ref f_first_by_fours) = true)
    (a_first_by_ones : PySem.W.nsIn K mainGlobals "first_by_ones" = some (some (.ref f_first_by_ones)))
    (l_first_by_ones : K.lookup f_first_by_ones = some ⟨oc_first_by_ones, od_first_by_ones, .func (PySem.W.fnOf "first_by_ones" "first_by_ones" (defArgs s_first_by_ones) (defBody s_first_by_ones) (defScope s_first_by_ones) .none kV_first_by_ones dc_first_by_ones pm_first_by_ones an_first_by_ones cd_first_by_ones ct_first_by_ones), sl_first_by_ones⟩)
    (c_first_by_ones : PySem.W.codeIn K cd_first_by_ones "first_by_ones" = true)
    (k_first_by_ones : PySem.W.keepIn K (.ref f_first_by_ones) = true)
    (a_first_of : PySem.W.nsIn K mainGlobals "first_of" = some (some (.ref f_first_of)))
    (l_first_of : K.lookup f_first_of = some ⟨oc_first_of, od_first_of, .func (PySem.W.fnOf "first_of" "first_of" (defArgs s_first_of) (defBody s_first_of) (defScope s_first_of) .none kV_first_of dc_first_of pm_first_of an_first_of cd_first_of ct_first_of), sl_first_of⟩)
    (c_first_of : PySem.W.codeIn K cd_first_of "first_of" = true)
    (k_first_of : PySem.W.keepIn K (.ref f_first_of) = true)
    (a_both : PySem.W.nsIn K mainGlobals "both" = some (some (.ref f_both)))
    (l_both : K.lookup f_both = some ⟨oc_both, od_both, .func (PySem.W.fnOf "both" "both" (defArgs s_both) (defBody s_both) (defScope s_both) .none kV_both dc_both pm_both an_both cd_both ct_both), sl_both⟩)
    (c_both : PySem.W.codeIn K cd_both "both" = true)
    (k_both : PySem.W.keepIn K (.ref f_both) = true)
    (a_places_of : PySem.W.nsIn K mainGlobals "places_of" = some (some (.ref f_places_of)))
    (l_places_of : K.lookup f_places_of = some ⟨oc_places_of, od_places_of, .func (PySem.W.fnOf "places_of" "places_of" (defArgs s_places_of) (defBody s_places_of) (defScope s_places_of) .none kV_places_of dc_places_of pm_places_of an_places_of cd_places_of ct_places_of), sl_places_of⟩)
    (c_places_of : PySem.W.codeIn K cd_places_of "places_of" = true)
    (k_places_of : PySem.W.keepIn K (.ref f_places_of) = true)
    (a_at_place : PySem.W.nsIn K mainGlobals "at_place" = some (some (.ref f_at_place)))
    (l_at_place : K.lookup f_at_place = some ⟨oc_at_place, od_at_place, .func (PySem.W.fnOf "at_place" "at_place" (defArgs s_at_place) (defBody s_at_place) (defScope s_at_place) .none kV_at_place dc_at_place pm_at_place an_at_place cd_at_place ct_at_place), sl_at_place⟩)
    (c_at_place : PySem.W.codeIn K cd_at_place "at_place" = true)
    (k_at_place : PySem.W.keepIn K (.ref f_at_place) = true)
    (a_number_at : PySem.W.nsIn K mainGlobals "number_at" = some (some (.ref f_number_at)))
    (l_number_at : K.lookup f_number_at = some ⟨oc_number_at, od_number_at, .func (PySem.W.fnOf "number_at" "number_at" (defArgs s_number_at) (defBody s_number_at) (defScope s_number_at) .none kV_number_at dc_number_at pm_number_at an_number_at cd_number_at ct_number_at), sl_number_at⟩)
    (c_number_at : PySem.W.codeIn K cd_number_at "number_at" = true)
    (k_number_at : PySem.W.keepIn K (.ref f_number_at) = true)
    (a_row : PySem.W.nsIn K mainGlobals "row" = some (some (.ref f_row)))
    (l_row : K.lookup f_row = some ⟨oc_row, od_row, .func (PySem.W.fnOf "row" "row" (defArgs s_row) (defBody s_row) (defScope s_row) .none kV_row dc_row pm_row an_row cd_row ct_row), sl_row⟩)
    (c_row : PySem.W.codeIn K cd_row "row" = true)
    (k_row : PySem.W.keepIn K (.ref f_row) = true)
    (a_asked_list : PySem.W.nsIn K mainGlobals "asked_list" = some (some (.ref f_asked_list)))
    (l_asked_list : K.lookup f_asked_list = some ⟨oc_asked_list, od_asked_list, .func (PySem.W.fnOf "asked_list" "asked_list" (defArgs s_asked_list) (defBody s_asked_list) (defScope s_asked_list) .none kV_asked_list dc_asked_list pm_asked_list an_asked_list cd_asked_list ct_asked_list), sl_asked_list⟩)
    (c_asked_list : PySem.W.codeIn K cd_asked_list "asked_list" = true)
    (k_asked_list : PySem.W.keepIn K (.ref f_asked_list) = true)
    (a_told : PySem.W.nsIn K mainGlobals "told" = some (some (.ref f_told)))
    (l_told : K.lookup f_told = some ⟨oc_told, od_told, .func (PySem.W.fnOf "told" "told" (defArgs s_told) (defBody s_told) (defScope s_told) .none kV_told dc_told pm_told an_told cd_told ct_told), sl_told⟩)
    (c_told : PySem.W.codeIn K cd_told "told" = true)
    (k_told : PySem.W.keepIn K (.ref f_told) = true)
    (a_mirrored : PySem.W.nsIn K mainGlobals "mirrored" = some (some (.ref f_mirrored)))
    (l_mirrored : K.lookup f_mirrored = some ⟨oc_mirrored, od_mirrored, .func (PySem.W.fnOf "mirrored" "mirrored" (defArgs s_mirrored) (defBody s_mirrored) (defScope s_mirrored) .none kV_mirrored dc_mirrored pm_mirrored an_mirrored cd_mirrored ct_mirrored), sl_mirrored⟩)
    (c_mirrored : PySem.W.codeIn K cd_mirrored "mirrored" = true)
    (k_mirrored : PySem.W.keepIn K (.ref f_mirrored) = true)
    (a_three_by : PySem.W.nsIn K mainGlobals "three_by" = some (some (.ref f_three_by)))
    (l_three_by : K.lookup f_three_by = some ⟨oc_three_by, od_three_by, .func (PySem.W.fnOf "three_by" "three_by" (defArgs s_three_by) (defBody s_three_by) (defScope s_three_by) .none kV_three_by dc_three_by pm_three_by an_three_by cd_three_by ct_three_by), sl_three_by⟩)
    (c_three_by : PySem.W.codeIn K cd_three_by "three_by" = true)
    (k_three_by : PySem.W.keepIn K (.ref f_three_by) = true)
    (a_three_of : PySem.W.nsIn K mainGlobals "three_of" = some (some (.ref f_three_of)))
    (l_three_of : K.lookup f_three_of = some ⟨oc_three_of, od_three_of, .func (PySem.W.fnOf "three_of" "three_of" (defArgs s_three_of) (defBody s_three_of) (defScope s_three_of) .none kV_three_of dc_three_of pm_three_of an_three_of cd_three_of ct_three_of), sl_three_of⟩)
    (c_three_of : PySem.W.codeIn K cd_three_of "three_of" = true)
    (k_three_of : PySem.W.keepIn K (.ref f_three_of) = true)
    (a__law_refused : PySem.W.nsIn K mainGlobals "_law_refused" = some (some (.ref f__law_refused)))
    (l__law_refused : K.lookup f__law_refused = some ⟨oc__law_refused, od__law_refused, .func (PySem.W.fnOf "_law_refused" "_law_refused" (defArgs s__law_refused) (defBody s__law_refused) (defScope s__law_refused) .none kV__law_refused dc__law_refused pm__law_refused an__law_refused cd__law_refused ct__law_refused), sl__law_refused⟩)
    (c__law_refused : PySem.W.codeIn K cd__law_refused "_law_refused" = true)
    (k__law_refused : PySem.W.keepIn K (.ref f__law_refused) = true)
    (a__law_plain : PySem.W.nsIn K mainGlobals "_law_plain" = some (some (.ref f__law_plain)))
    (l__law_plain : K.lookup f__law_plain = some ⟨oc__law_plain, od__law_plain, .func (PySem.W.fnOf "_law_plain" "_law_plain" (defArgs s__law_plain) (defBody s__law_plain) (defScope s__law_plain) .none kV__law_plain dc__law_plain pm__law_plain an__law_plain cd__law_plain ct__law_plain), sl__law_plain⟩)
    (c__law_plain : PySem.W.codeIn K cd__law_plain "_law_plain" = true)
    (k__law_plain : PySem.W.keepIn K (.ref f__law_plain) = true)
    (a__law_truths : PySem.W.nsIn K mainGlobals "_law_truths" = some (some (.ref f__law_truths)))
    (l__law_truths : K.lookup f__law_truths = some ⟨oc__law_truths, od__law_truths, .func (PySem.W.fnOf "_law_truths" "_law_truths" (defArgs s__law_truths) (defBody s__law_truths) (defScope s__law_truths) .none kV__law_truths dc__law_truths pm__law_truths an__law_truths cd__law_truths ct__law_truths), sl__law_truths⟩)
    (c__law_truths : PySem.W.codeIn K cd__law_truths "_law_truths" = true)
    (k__law_truths : PySem.W.keepIn K (.ref f__law_truths) = true)
    (a__law_long_right : PySem.W.nsIn K mainGlobals "_law_long_right" = some (some (.ref f__law_long_right)))
    (l__law_long_right : K.lookup f__law_long_right = some ⟨oc__law_long_right, od__law_long_right, .func (PySem.W.fnOf "_law_long_right" "_law_long_right" (defArgs s__law_long_right) (defBody s__law_long_right) (defScope s__law_long_right) .none kV__law_long_right dc__law_long_right pm__law_long_right an__law_long_right cd__law_long_right ct__law_long_right), sl__law_long_right⟩)
    (c__law_long_right : PySem.W.codeIn K cd__law_long_right "_law_long_right" = true)
    (k__law_long_right : PySem.W.keepIn K (.ref f__law_long_right) = true)
    (a__law_known_right : PySem.W.nsIn K mainGlobals "_law_known_right" = some (some (.ref f__law_known_right)))
    (l__law_known_right : K.lookup f__law_known_right = some ⟨oc__law_known_right, od__law_known_right, .func (PySem.W.fnOf "_law_known_right" "_law_known_right" (defArgs s__law_known_right) (defBody s__law_known_right) (defScope s__law_known_right) .none kV__law_known_right dc__law_known_right pm__law_known_right an__law_known_right (.ref q__law_known_right) ct__law_known_right), sl__law_known_right⟩)
    (c__law_known_right : PySem.W.codeIn K (.ref q__law_known_right) "_law_known_right" = true)
    (k__law_known_right : PySem.W.keepIn K (.ref f__law_known_right) = true)
    (qk__law_known_right : K.lookup q__law_known_right = some ⟨ce__law_known_right, cdd__law_known_right, .fields cv__law_known_right, cs__law_known_right⟩)
    (qp__law_known_right : cv__law_known_right[11]? = some (.ref p__law_known_right))
    (qh__law_known_right : PySem.W.codeHdIn K q__law_known_right p__law_known_right = true)
    (qn__law_known_right : K.lookup p__law_known_right = none)
    (a__law_first_right : PySem.W.nsIn K mainGlobals "_law_first_right" = some (some (.ref f__law_first_right)))
    (l__law_first_right : K.lookup f__law_first_right = some ⟨oc__law_first_right, od__law_first_right, .func (PySem.W.fnOf "_law_first_right" "_law_first_right" (defArgs s__law_first_right) (defBody s__law_first_right) (defScope s__law_first_right) .none kV__law_first_right dc__law_first_right pm__law_first_right an__law_first_right (.ref q__law_first_right) ct__law_first_right), sl__law_first_right⟩)
    (c__law_first_right : PySem.W.codeIn K (.ref q__law_first_right) "_law_first_right" = true)
    (k__law_first_right : PySem.W.keepIn K (.ref f__law_first_right) = true)
    (qk__law_first_right : K.lookup q__law_first_right = some ⟨ce__law_first_right, cdd__law_first_right, .fields cv__law_first_right, cs__law_first_right⟩)
    (qp__law_first_right : cv__law_first_right[11]? = some (.ref p__law_first_right))
    (qh__law_first_right : PySem.W.codeHdIn K q__law_first_right p__law_first_right = true)
    (qn__law_first_right : K.lookup p__law_first_right = none)
    (a__law_threes_promises : PySem.W.nsIn K mainGlobals "_law_threes_promises" = some (some (.ref f__law_threes_promises)))
    (l__law_threes_promises : K.lookup f__law_threes_promises = some ⟨oc__law_threes_promises, od__law_threes_promises, .func (PySem.W.fnOf "_law_threes_promises" "_law_threes_promises" (defArgs s__law_threes_promises) (defBody s__law_threes_promises) (defScope s__law_threes_promises) .none kV__law_threes_promises dc__law_threes_promises pm__law_threes_promises an__law_threes_promises cd__law_threes_promises ct__law_threes_promises), sl__law_threes_promises⟩)
    (c__law_threes_promises : PySem.W.codeIn K cd__law_threes_promises "_law_threes_promises" = true)
    (k__law_threes_promises : PySem.W.keepIn K (.ref f__law_threes_promises) = true)
    (a__law_promises_right : PySem.W.nsIn K mainGlobals "_law_promises_right" = some (some (.ref f__law_promises_right)))
    (l__law_promises_right : K.lookup f__law_promises_right = some ⟨oc__law_promises_right, od__law_promises_right, .func (PySem.W.fnOf "_law_promises_right" "_law_promises_right" (defArgs s__law_promises_right) (defBody s__law_promises_right) (defScope s__law_promises_right) .none kV__law_promises_right dc__law_promises_right pm__law_promises_right an__law_promises_right cd__law_promises_right ct__law_promises_right), sl__law_promises_right⟩)
    (c__law_promises_right : PySem.W.codeIn K cd__law_promises_right "_law_promises_right" = true)
    (k__law_promises_right : PySem.W.keepIn K (.ref f__law_promises_right) = true)
    (a__law_judged_promises : PySem.W.nsIn K mainGlobals "_law_judged_promises" = some (some (.ref f__law_judged_promises)))
    (l__law_judged_promises : K.lookup f__law_judged_promises = some ⟨oc__law_judged_promises, od__law_judged_promises, .func (PySem.W.fnOf "_law_judged_promises" "_law_judged_promises" (defArgs s__law_judged_promises) (defBody s__law_judged_promises) (defScope s__law_judged_promises) .none kV__law_judged_promises dc__law_judged_promises pm__law_judged_promises an__law_judged_promises cd__law_judged_promises ct__law_judged_promises), sl__law_judged_promises⟩)
    (c__law_judged_promises : PySem.W.codeIn K cd__law_judged_promises "_law_judged_promises" = true)
    (k__law_judged_promises : PySem.W.keepIn K (.ref f__law_judged_promises) = true)
    (a_law : PySem.W.nsIn K mainGlobals "law" = some (some (.ref f_law)))
    (l_law : K.lookup f_law = some ⟨oc_law, od_law, .func (PySem.W.fnOf "law" "law" (defArgs s_law) (defBody s_law) (defScope s_law) .none kV_law dc_law pm_law an_law cd_law ct_law), sl_law⟩)
    (c_law : PySem.W.codeIn K cd_law "law" = true)
    (k_law : PySem.W.keepIn K (.ref f_law) = true)
    (pne0 : p__law_known_right ≠ p__law_first_right)
    (p1_Can : PySem.W.plainGet K e_Can Str.empty = true)
    (p2_Can : PySem.W.hasDictIn K e_Can = true)
    (p3_Can : PySem.W.plainOver K e_Can = true)
    (p4_Can : PySem.W.findIn K (.ref e_Can) "__setattr__" = some (some (.builtin "object.__setattr__")))
    (p5_Can : PySem.W.findIn K (.ref e_Can) "__class__" = some (some (.builtin "object.__class__")))
    (p6_Can : PySem.W.specialIn K (.builtin "object.__class__") "__get__" = some (some (.builtin "getset_descriptor.__get__")))
    (p7_Can : PySem.W.takesIn K (.builtin "object.__class__") = some true)
    (p8_Can : PySem.W.mroIn K e_Can (.type "object") = some true)
    (p9_Can : PySem.W.makesIn K e_Can = true)
    (pk_Can : PySem.W.keepIn K (.ref e_Can) = true)
    (ni_Can : PySem.W.findIn K (.ref e_Can) "__init__" = some (some (.builtin "object.__init__")))
    (p1_Barred : PySem.W.plainGet K e_Barred Str.empty = true)
    (p2_Barred : PySem.W.hasDictIn K e_Barred = true)
    (p3_Barred : PySem.W.plainOver K e_Barred = true)
    (p4_Barred : PySem.W.findIn K (.ref e_Barred) "__setattr__" = some (some (.builtin "object.__setattr__")))
    (p5_Barred : PySem.W.findIn K (.ref e_Barred) "__class__" = some (some (.builtin "object.__class__")))
    (p6_Barred : PySem.W.specialIn K (.builtin "object.__class__") "__get__" = some (some (.builtin "getset_descriptor.__get__")))
    (p7_Barred : PySem.W.takesIn K (.builtin "object.__class__") = some true)
    (p8_Barred : PySem.W.mroIn K e_Barred (.type "object") = some true)
    (p9_Barred : PySem.W.makesIn K e_Barred = true)
    (pk_Barred : PySem.W.keepIn K (.ref e_Barred) = true)
    (ni_Barred : PySem.W.findIn K (.ref e_Barred) "__init__" = some (some (.builtin "object.__init__")))
    (p1_Good : PySem.W.plainGet K e_Good Str.empty = true)
    (p2_Good : PySem.W.hasDictIn K e_Good = true)
    (p3_Good : PySem.W.plainOver K e_Good = true)
    (p4_Good : PySem.W.findIn K (.ref e_Good) "__setattr__" = some (some (.builtin "object.__setattr__")))
    (p5_Good : PySem.W.findIn K (.ref e_Good) "__class__" = some (some (.builtin "object.__class__")))
    (p6_Good : PySem.W.specialIn K (.builtin "object.__class__") "__get__" = some (some (.builtin "getset_descriptor.__get__")))
    (p7_Good : PySem.W.takesIn K (.builtin "object.__class__") = some true)
    (p8_Good : PySem.W.mroIn K e_Good (.type "object") = some true)
    (p9_Good : PySem.W.makesIn K e_Good = true)
    (pk_Good : PySem.W.keepIn K (.ref e_Good) = true)
    (ni_Good : PySem.W.findIn K (.ref e_Good) "__init__" = some (some (.builtin "object.__init__")))
    (p1_Off : PySem.W.plainGet K e_Off Str.empty = true)
    (p2_Off : PySem.W.hasDictIn K e_Off = true)
    (p3_Off : PySem.W.plainOver K e_Off = true)
    (p4_Off : PySem.W.findIn K (.ref e_Off) "__setattr__" = some (some (.builtin "object.__setattr__")))
    (p5_Off : PySem.W.findIn K (.ref e_Off) "__class__" = some (some (.builtin "object.__class__")))
    (p6_Off : PySem.W.specialIn K (.builtin "object.__class__") "__get__" = some (some (.builtin "getset_descriptor.__get__")))
    (p7_Off : PySem.W.takesIn K (.builtin "object.__class__") = some true)
    (p8_Off : PySem.W.mroIn K e_Off (.type "object") = some true)
    (p9_Off : PySem.W.makesIn K e_Off = true)
    (pk_Off : PySem.W.keepIn K (.ref e_Off) = true)
    (na_Off : PySem.W.findIn K (.ref e_Off) "number" = some none)
    (x_PairError : PySem.W.excIn K e_PairError [.type "ValueError", .type "Exception", .type "BaseException", .type "object"] "ValueError.__new__" = true)
    (xk_PairError : PySem.W.keepIn K (.ref e_PairError) = true)
    (xs_PairError : PySem.W.subIn K (.ref e_PairError) (.type "BaseException") = some true)
    (xt_PairError : PySem.W.typeIn K (.ref e_PairError) = some (.type "type"))
    (xd_PairError : PySem.W.hasDictIn K e_PairError = true)
    (x_BadLast : PySem.W.excIn K e_BadLast [.type "ValueError", .type "Exception", .type "BaseException", .type "object"] "ValueError.__new__" = true)
    (xk_BadLast : PySem.W.keepIn K (.ref e_BadLast) = true)
    (xs_BadLast : PySem.W.subIn K (.ref e_BadLast) (.type "BaseException") = some true)
    (xt_BadLast : PySem.W.typeIn K (.ref e_BadLast) = some (.type "type"))
    (xd_BadLast : PySem.W.hasDictIn K e_BadLast = true)
    (yg_BadLast : PySem.W.findIn K (.ref e_BadLast) "__getattribute__" = some (some (.builtin "BaseException.__getattribute__")))
    (yh_BadLast : PySem.W.findIn K (.ref e_BadLast) "__getattr__" = some none)
    (ya_BadLast : PySem.W.findIn K (.ref e_BadLast) "__class__" = some (some (.builtin "object.__class__")))
    (yn_BadLast : PySem.W.specialIn K (.builtin "object.__class__") "__get__" = some (some (.builtin "getset_descriptor.__get__")))
    (yt_BadLast : PySem.W.takesIn K (.builtin "object.__class__") = some true)
    (ym_BadLast : PySem.W.mroIn K e_BadLast (.type "object") = some true)
    (yp_BadLast : PySem.W.subIn K (.ref e_BadLast) (.ref e_PairError) = some true)
    (kv_BadLast : PySem.W.kitOne K (.ref e_BadLast) (.type "ValueError") = some true)
    (x_BadNumber : PySem.W.excIn K e_BadNumber [.type "ValueError", .type "Exception", .type "BaseException", .type "object"] "ValueError.__new__" = true)
    (xk_BadNumber : PySem.W.keepIn K (.ref e_BadNumber) = true)
    (xs_BadNumber : PySem.W.subIn K (.ref e_BadNumber) (.type "BaseException") = some true)
    (xt_BadNumber : PySem.W.typeIn K (.ref e_BadNumber) = some (.type "type"))
    (xd_BadNumber : PySem.W.hasDictIn K e_BadNumber = true)
    (yg_BadNumber : PySem.W.findIn K (.ref e_BadNumber) "__getattribute__" = some (some (.builtin "BaseException.__getattribute__")))
    (yh_BadNumber : PySem.W.findIn K (.ref e_BadNumber) "__getattr__" = some none)
    (ya_BadNumber : PySem.W.findIn K (.ref e_BadNumber) "__class__" = some (some (.builtin "object.__class__")))
    (yn_BadNumber : PySem.W.specialIn K (.builtin "object.__class__") "__get__" = some (some (.builtin "getset_descriptor.__get__")))
    (yt_BadNumber : PySem.W.takesIn K (.builtin "object.__class__") = some true)
    (ym_BadNumber : PySem.W.mroIn K e_BadNumber (.type "object") = some true)
    (yp_BadNumber : PySem.W.subIn K (.ref e_BadNumber) (.ref e_PairError) = some true)
    (kv_BadNumber : PySem.W.kitOne K (.ref e_BadNumber) (.type "ValueError") = some true)
    (x_BadPlace : PySem.W.excIn K e_BadPlace [.type "ValueError", .type "Exception", .type "BaseException", .type "object"] "ValueError.__new__" = true)
    (xk_BadPlace : PySem.W.keepIn K (.ref e_BadPlace) = true)
    (xs_BadPlace : PySem.W.subIn K (.ref e_BadPlace) (.type "BaseException") = some true)
    (xt_BadPlace : PySem.W.typeIn K (.ref e_BadPlace) = some (.type "type"))
    (xd_BadPlace : PySem.W.hasDictIn K e_BadPlace = true)
    (yg_BadPlace : PySem.W.findIn K (.ref e_BadPlace) "__getattribute__" = some (some (.builtin "BaseException.__getattribute__")))
    (yh_BadPlace : PySem.W.findIn K (.ref e_BadPlace) "__getattr__" = some none)
    (ya_BadPlace : PySem.W.findIn K (.ref e_BadPlace) "__class__" = some (some (.builtin "object.__class__")))
    (yn_BadPlace : PySem.W.specialIn K (.builtin "object.__class__") "__get__" = some (some (.builtin "getset_descriptor.__get__")))
    (yt_BadPlace : PySem.W.takesIn K (.builtin "object.__class__") = some true)
    (ym_BadPlace : PySem.W.mroIn K e_BadPlace (.type "object") = some true)
    (yp_BadPlace : PySem.W.subIn K (.ref e_BadPlace) (.ref e_PairError) = some true)
    (kv_BadPlace : PySem.W.kitOne K (.ref e_BadPlace) (.type "ValueError") = some true)
    (x_BadRow : PySem.W.excIn K e_BadRow [.type "ValueError", .type "Exception", .type "BaseException", .type "object"] "ValueError.__new__" = true)
    (xk_BadRow : PySem.W.keepIn K (.ref e_BadRow) = true)
    (xs_BadRow : PySem.W.subIn K (.ref e_BadRow) (.type "BaseException") = some true)
    (xt_BadRow : PySem.W.typeIn K (.ref e_BadRow) = some (.type "type"))
    (xd_BadRow : PySem.W.hasDictIn K e_BadRow = true)
    (yg_BadRow : PySem.W.findIn K (.ref e_BadRow) "__getattribute__" = some (some (.builtin "BaseException.__getattribute__")))
    (yh_BadRow : PySem.W.findIn K (.ref e_BadRow) "__getattr__" = some none)
    (ya_BadRow : PySem.W.findIn K (.ref e_BadRow) "__class__" = some (some (.builtin "object.__class__")))
    (yn_BadRow : PySem.W.specialIn K (.builtin "object.__class__") "__get__" = some (some (.builtin "getset_descriptor.__get__")))
    (yt_BadRow : PySem.W.takesIn K (.builtin "object.__class__") = some true)
    (ym_BadRow : PySem.W.mroIn K e_BadRow (.type "object") = some true)
    (yp_BadRow : PySem.W.subIn K (.ref e_BadRow) (.ref e_PairError) = some true)
    (kv_BadRow : PySem.W.kitOne K (.ref e_BadRow) (.type "ValueError") = some true)
    (x_NoRow : PySem.W.excIn K e_NoRow [.type "ValueError", .type "Exception", .type "BaseException", .type "object"] "ValueError.__new__" = true)
    (xk_NoRow : PySem.W.keepIn K (.ref e_NoRow) = true)
    (xs_NoRow : PySem.W.subIn K (.ref e_NoRow) (.type "BaseException") = some true)
    (xt_NoRow : PySem.W.typeIn K (.ref e_NoRow) = some (.type "type"))
    (xd_NoRow : PySem.W.hasDictIn K e_NoRow = true)
    (yg_NoRow : PySem.W.findIn K (.ref e_NoRow) "__getattribute__" = some (some (.builtin "BaseException.__getattribute__")))
    (yh_NoRow : PySem.W.findIn K (.ref e_NoRow) "__getattr__" = some none)
    (ya_NoRow : PySem.W.findIn K (.ref e_NoRow) "__class__" = some (some (.builtin "object.__class__")))
    (yn_NoRow : PySem.W.specialIn K (.builtin "object.__class__") "__get__" = some (some (.builtin "getset_descriptor.__get__")))
    (yt_NoRow : PySem.W.takesIn K (.builtin "object.__class__") = some true)
    (ym_NoRow : PySem.W.mroIn K e_NoRow (.type "object") = some true)
    (yp_NoRow : PySem.W.subIn K (.ref e_NoRow) (.ref e_PairError) = some true)
    (kv_NoRow : PySem.W.kitOne K (.ref e_NoRow) (.type "ValueError") = some true)
    (z_GREATEST : PySem.W.nsIn K mainGlobals "GREATEST" = some (some (.int 100 t_GREATEST)))
    (z_FIRSTS : PySem.W.nsIn K mainGlobals "FIRSTS" = some (some (.ref e_FIRSTS)))
    (l_FIRSTS : K.lookup e_FIRSTS = some ⟨.type "dict", none, .dict #[⟨1, .int 1 t_F1, .ref e_F1⟩, ⟨4, .int 4 t_F4, .ref e_F4⟩, ⟨5, .int 5 t_F5, .ref e_F5⟩] n_F, #[]⟩)
    (l_F1 : K.lookup e_F1 = some ⟨.type "tuple", dd_F1, .seq #[.int 1 t_Fa0] n_F1, ss_F1⟩)
    (l_F4 : K.lookup e_F4 = some ⟨.type "tuple", dd_F4, .seq #[.int 1 t_Fa1, .int 5 t_Fa2, .int 3 t_Fa3, .int 4 t_Fa4] n_F4, ss_F4⟩)
    (l_F5 : K.lookup e_F5 = some ⟨.type "tuple", dd_F5, .seq #[.int 8 t_Fa5, .int 3 t_Fa6, .int 1 t_Fa7, .int 6 t_Fa8, .int 2 t_Fa9] n_F5, ss_F5⟩)
    (z_MOST : PySem.W.nsIn K mainGlobals "MOST" = some (some (.int 400 t_MOST)))
    (m_ValueError : PySem.W.nsIn K mainGlobals "ValueError" = some none)
    (m_abs : PySem.W.nsIn K mainGlobals "abs" = some none)
    (m_all : PySem.W.nsIn K mainGlobals "all" = some none)
    (m_any : PySem.W.nsIn K mainGlobals "any" = some none)
    (m_bool : PySem.W.nsIn K mainGlobals "bool" = some none)
    (m_int : PySem.W.nsIn K mainGlobals "int" = some none)
    (m_isinstance : PySem.W.nsIn K mainGlobals "isinstance" = some none)
    (m_len : PySem.W.nsIn K mainGlobals "len" = some none)
    (m_list : PySem.W.nsIn K mainGlobals "list" = some none)
    (m_range : PySem.W.nsIn K mainGlobals "range" = some none)
    (m_set : PySem.W.nsIn K mainGlobals "set" = some none)
    (m_sorted : PySem.W.nsIn K mainGlobals "sorted" = some none)
    (m_str : PySem.W.nsIn K mainGlobals "str" = some none)
    (m_sum : PySem.W.nsIn K mainGlobals "sum" = some none)
    (m_tuple : PySem.W.nsIn K mainGlobals "tuple" = some none)
    (m_zip : PySem.W.nsIn K mainGlobals "zip" = some none)
    (ke_BadLast_BadLast : PySem.W.kitOne K (.ref e_BadLast) (.ref e_BadLast) = some true)
    (ke_BadLast_BadNumber : PySem.W.kitOne K (.ref e_BadLast) (.ref e_BadNumber) = some false)
    (ke_BadLast_BadPlace : PySem.W.kitOne K (.ref e_BadLast) (.ref e_BadPlace) = some false)
    (ke_BadLast_BadRow : PySem.W.kitOne K (.ref e_BadLast) (.ref e_BadRow) = some false)
    (ke_BadLast_NoRow : PySem.W.kitOne K (.ref e_BadLast) (.ref e_NoRow) = some false)
    (ke_BadNumber_BadLast : PySem.W.kitOne K (.ref e_BadNumber) (.ref e_BadLast) = some false)
    (ke_BadNumber_BadNumber : PySem.W.kitOne K (.ref e_BadNumber) (.ref e_BadNumber) = some true)
    (ke_BadNumber_BadPlace : PySem.W.kitOne K (.ref e_BadNumber) (.ref e_BadPlace) = some false)
    (ke_BadNumber_BadRow : PySem.W.kitOne K (.ref e_BadNumber) (.ref e_BadRow) = some false)
    (ke_BadNumber_NoRow : PySem.W.kitOne K (.ref e_BadNumber) (.ref e_NoRow) = some false)
    (ke_BadPlace_BadLast : PySem.W.kitOne K (.ref e_BadPlace) (.ref e_BadLast) = some false)
    (ke_BadPlace_BadNumber : PySem.W.kitOne K (.ref e_BadPlace) (.ref e_BadNumber) = some false)
    (ke_BadPlace_BadPlace : PySem.W.kitOne K (.ref e_BadPlace) (.ref e_BadPlace) = some true)
    (ke_BadPlace_BadRow : PySem.W.kitOne K (.ref e_BadPlace) (.ref e_BadRow) = some false)
    (ke_BadPlace_NoRow : PySem.W.kitOne K (.ref e_BadPlace) (.ref e_NoRow) = some false)
    (ke_BadRow_BadLast : PySem.W.kitOne K (.ref e_BadRow) (.ref e_BadLast) = some false)
    (ke_BadRow_BadNumber : PySem.W.kitOne K (.ref e_BadRow) (.ref e_BadNumber) = some false)
    (ke_BadRow_BadPlace : PySem.W.kitOne K (.ref e_BadRow) (.ref e_BadPlace) = some false)
    (ke_BadRow_BadRow : PySem.W.kitOne K (.ref e_BadRow) (.ref e_BadRow) = some true)
    (ke_BadRow_NoRow : PySem.W.kitOne K (.ref e_BadRow) (.ref e_NoRow) = some false)
    (ke_NoRow_BadLast : PySem.W.kitOne K (.ref e_NoRow) (.ref e_BadLast) = some false)
    (ke_NoRow_BadNumber : PySem.W.kitOne K (.ref e_NoRow) (.ref e_BadNumber) = some false)
    (ke_NoRow_BadPlace : PySem.W.kitOne K (.ref e_NoRow) (.ref e_BadPlace) = some false)
    (ke_NoRow_BadRow : PySem.W.kitOne K (.ref e_NoRow) (.ref e_BadRow) = some false)
    (ke_NoRow_NoRow : PySem.W.kitOne K (.ref e_NoRow) (.ref e_NoRow) = some true)
    (kit_Can_Answer : PySem.W.kitOne K (.ref e_Can) (.ref e_Answer) = some true)
    (kit_Can_Can : PySem.W.kitOne K (.ref e_Can) (.ref e_Can) = some true)
    (kit_Can_Barred : PySem.W.kitOne K (.ref e_Can) (.ref e_Barred) = some false)
    (kit_Can_Good : PySem.W.kitOne K (.ref e_Can) (.ref e_Good) = some false)
    (kit_Can_Off : PySem.W.kitOne K (.ref e_Can) (.ref e_Off) = some false)
    (kit_Barred_Answer : PySem.W.kitOne K (.ref e_Barred) (.ref e_Answer) = some true)
    (kit_Barred_Can : PySem.W.kitOne K (.ref e_Barred) (.ref e_Can) = some false)
    (kit_Barred_Barred : PySem.W.kitOne K (.ref e_Barred) (.ref e_Barred) = some true)
    (kit_Barred_Good : PySem.W.kitOne K (.ref e_Barred) (.ref e_Good) = some false)
    (kit_Barred_Off : PySem.W.kitOne K (.ref e_Barred) (.ref e_Off) = some false)
    (kit_Good_Answer : PySem.W.kitOne K (.ref e_Good) (.ref e_Answer) = some true)
    (kit_Good_Can : PySem.W.kitOne K (.ref e_Good) (.ref e_Can) = some false)
    (kit_Good_Barred : PySem.W.kitOne K (.ref e_Good) (.ref e_Barred) = some false)
    (kit_Good_Good : PySem.W.kitOne K (.ref e_Good) (.ref e_Good) = some true)
    (kit_Good_Off : PySem.W.kitOne K (.ref e_Good) (.ref e_Off) = some false)
    (kit_Off_Answer : PySem.W.kitOne K (.ref e_Off) (.ref e_Answer) = some true)
    (kit_Off_Can : PySem.W.kitOne K (.ref e_Off) (.ref e_Can) = some false)
    (kit_Off_Barred : PySem.W.kitOne K (.ref e_Off) (.ref e_Barred) = some false)
    (kit_Off_Good : PySem.W.kitOne K (.ref e_Off) (.ref e_Good) = some false)
    (kit_Off_Off : PySem.W.kitOne K (.ref e_Off) (.ref e_Off) = some true) :
    LamX.LawAtS l w K CX0 9 63 "_law_script" mg fa h := by
  have e := hfa.symm.trans (PySem.W.mg_of X G a_law)
  cases e
  have tb : ∀ p ∈ [(q__law_known_right, p__law_known_right), (q__law_first_right, p__law_first_right)], h.get? p.2 = some { cls := .none, data := .fields #[] } ∧ K.lookup p.2 = none ∧ PySem.W.CodeHd h p.1 p.2 := by
    intro p hp
    simp only [List.mem_cons, List.not_mem_nil, or_false] at hp
    rcases hp with rfl | rfl
    · exact ⟨tabs "_law_known_right" (by simp) _ _ _ _ _ _ _ _ _ (PySem.W.mg_of X G a__law_known_right) l__law_known_right rfl rfl qk__law_known_right qp__law_known_right, qn__law_known_right, PySem.W.codeHd_of_K X qh__law_known_right⟩
    · exact ⟨tabs "_law_first_right" (by simp) _ _ _ _ _ _ _ _ _ (PySem.W.mg_of X G a__law_first_right) l__law_first_right rfl rfl qk__law_first_right qp__law_first_right, qn__law_first_right, PySem.W.codeHd_of_K X qh__law_first_right⟩
  refine ⟨PySem.W.fnOf "law" "law" (defArgs s_law) (defBody s_law) (defScope s_law) .none kV_law dc_law pm_law an_law cd_law ct_law, [(q__law_known_right, p__law_known_right), (q__law_first_right, p__law_first_right)], sp_law (all_tx X G z_Answer z_Can z_Barred z_Good z_Off z_PairError z_BadLast z_BadNumber z_BadPlace z_BadRow z_NoRow a_Can_shows i_Can_shows l_Can_shows c_Can_shows k_Can_shows a_Barred_shows i_Barred_shows l_Barred_shows c_Barred_shows k_Barred_shows a_is_right l_is_right c_is_right k_is_right a_Good_shows i_Good_shows l_Good_shows c_Good_shows k_Good_shows a_Off___init__ i_Off___init__ l_Off___init__ c_Off___init__ k_Off___init__ a_Off_shows i_Off_shows l_Off_shows c_Off_shows k_Off_shows a_is_number l_is_number c_is_number k_is_number a_asked_last l_asked_last c_asked_last k_asked_last a_can l_can c_can k_can a_asked_row l_asked_row c_asked_row k_asked_row a_first_by_fours l_first_by_fours c_first_by_fours k_first_by_fours a_first_by_ones l_first_by_ones c_first_by_ones k_first_by_ones a_first_of l_first_of c_first_of k_first_of a_both l_both c_both k_both a_places_of l_places_of c_places_of k_places_of a_at_place l_at_place c_at_place k_at_place a_number_at l_number_at c_number_at k_number_at a_row l_row c_row k_row a_asked_list l_asked_list c_asked_list k_asked_list a_told l_told c_told k_told a_mirrored l_mirrored c_mirrored k_mirrored a_three_by l_three_by c_three_by k_three_by a_three_of l_three_of c_three_of k_three_of a__law_refused l__law_refused c__law_refused k__law_refused a__law_plain l__law_plain c__law_plain k__law_plain a__law_truths l__law_truths c__law_truths k__law_truths a__law_long_right l__law_long_right c__law_long_right k__law_long_right a__law_known_right l__law_known_right c__law_known_right k__law_known_right qk__law_known_right qp__law_known_right qh__law_known_right qn__law_known_right a__law_first_right l__law_first_right c__law_first_right k__law_first_right qk__law_first_right qp__law_first_right qh__law_first_right qn__law_first_right a__law_threes_promises l__law_threes_promises c__law_threes_promises k__law_threes_promises a__law_promises_right l__law_promises_right c__law_promises_right k__law_promises_right a__law_judged_promises l__law_judged_promises c__law_judged_promises k__law_judged_promises a_law l_law c_law k_law pne0 p1_Can p2_Can p3_Can p4_Can p5_Can p6_Can p7_Can p8_Can p9_Can pk_Can ni_Can p1_Barred p2_Barred p3_Barred p4_Barred p5_Barred p6_Barred p7_Barred p8_Barred p9_Barred pk_Barred ni_Barred p1_Good p2_Good p3_Good p4_Good p5_Good p6_Good p7_Good p8_Good p9_Good pk_Good ni_Good p1_Off p2_Off p3_Off p4_Off p5_Off p6_Off p7_Off p8_Off p9_Off pk_Off na_Off x_PairError xk_PairError xs_PairError xt_PairError xd_PairError x_BadLast xk_BadLast xs_BadLast xt_BadLast xd_BadLast yg_BadLast yh_BadLast ya_BadLast yn_BadLast yt_BadLast ym_BadLast yp_BadLast kv_BadLast x_BadNumber xk_BadNumber xs_BadNumber xt_BadNumber xd_BadNumber yg_BadNumber yh_BadNumber ya_BadNumber yn_BadNumber yt_BadNumber ym_BadNumber yp_BadNumber kv_BadNumber x_BadPlace xk_BadPlace xs_BadPlace xt_BadPlace xd_BadPlace yg_BadPlace yh_BadPlace ya_BadPlace yn_BadPlace yt_BadPlace ym_BadPlace yp_BadPlace kv_BadPlace x_BadRow xk_BadRow xs_BadRow xt_BadRow xd_BadRow yg_BadRow yh_BadRow ya_BadRow yn_BadRow yt_BadRow ym_BadRow yp_BadRow kv_BadRow x_NoRow xk_NoRow xs_NoRow xt_NoRow xd_NoRow yg_NoRow yh_NoRow ya_NoRow yn_NoRow yt_NoRow ym_NoRow yp_NoRow kv_NoRow z_GREATEST z_FIRSTS l_FIRSTS l_F1 l_F4 l_F5 z_MOST m_ValueError m_abs m_all m_any m_bool m_int m_isinstance m_len m_list m_range m_set m_sorted m_str m_sum m_tuple m_zip ke_BadLast_BadLast ke_BadLast_BadNumber ke_BadLast_BadPlace ke_BadLast_BadRow ke_BadLast_NoRow ke_BadNumber_BadLast ke_BadNumber_BadNumber ke_BadNumber_BadPlace ke_BadNumber_BadRow ke_BadNumber_NoRow ke_BadPlace_BadLast ke_BadPlace_BadNumber ke_BadPlace_BadPlace ke_BadPlace_BadRow ke_BadPlace_NoRow ke_BadRow_BadLast ke_BadRow_BadNumber ke_BadRow_BadPlace ke_BadRow_BadRow ke_BadRow_NoRow ke_NoRow_BadLast ke_NoRow_BadNumber ke_NoRow_BadPlace ke_NoRow_BadRow ke_NoRow_NoRow kit_Can_Answer kit_Can_Can kit_Can_Barred kit_Can_Good kit_Can_Off kit_Barred_Answer kit_Barred_Can kit_Barred_Barred kit_Barred_Good kit_Barred_Off kit_Good_Answer kit_Good_Can kit_Good_Barred kit_Good_Good kit_Good_Off kit_Off_Answer kit_Off_Can kit_Off_Barred kit_Off_Good kit_Off_Off), fun p hp => (tb p hp).1, fun p hp => (tb p hp).2.1, fun p hp => (tb p hp).2.2, fun s v => .of_eq rfl, fun H a ns hl hb hT hS => ⟨a, ns, rfl, hS, hl, hb, hT (q__law_known_right, p__law_known_right) (by simp), hT (q__law_first_right, p__law_first_right) (by simp), fun _ => rfl⟩, fun base _ _ TB => ok_law (all_tx X G z_Answer z_Can z_Barred z_Good z_Off z_PairError z_BadLast z_BadNumber z_BadPlace z_BadRow z_NoRow a_Can_shows i_Can_shows l_Can_shows c_Can_shows k_Can_shows a_Barred_shows i_Barred_shows l_Barred_shows c_Barred_shows k_Barred_shows a_is_right l_is_right c_is_right k_is_right a_Good_shows i_Good_shows l_Good_shows c_Good_shows k_Good_shows a_Off___init__ i_Off___init__ l_Off___init__ c_Off___init__ k_Off___init__ a_Off_shows i_Off_shows l_Off_shows c_Off_shows k_Off_shows a_is_number l_is_number c_is_number k_is_number a_asked_last l_asked_last c_asked_last k_asked_last a_can l_can c_can k_can a_asked_row l_asked_row c_asked_row k_asked_row a_first_by_fours l_first_by_fours c_first_by_fours k_first_by_fours a_first_by_ones l_first_by_ones c_first_by_ones k_first_by_ones a_first_of l_first_of c_first_of k_first_of a_both l_both c_both k_both a_places_of l_places_of c_places_of k_places_of a_at_place l_at_place c_at_place k_at_place a_number_at l_number_at c_number_at k_number_at a_row l_row c_row k_row a_asked_list l_asked_list c_asked_list k_asked_list a_told l_told c_told k_told a_mirrored l_mirrored c_mirrored k_mirrored a_three_by l_three_by c_three_by k_three_by a_three_of l_three_of c_three_of k_three_of a__law_refused l__law_refused c__law_refused k__law_refused a__law_plain l__law_plain c__law_plain k__law_plain a__law_truths l__law_truths c__law_truths k__law_truths a__law_long_right l__law_long_right c__law_long_right k__law_long_right a__law_known_right l__law_known_right c__law_known_right k__law_known_right qk__law_known_right qp__law_known_right qh__law_known_right qn__law_known_right a__law_first_right l__law_first_right c__law_first_right k__law_first_right qk__law_first_right qp__law_first_right qh__law_first_right qn__law_first_right a__law_threes_promises l__law_threes_promises c__law_threes_promises k__law_threes_promises a__law_promises_right l__law_promises_right c__law_promises_right k__law_promises_right a__law_judged_promises l__law_judged_promises c__law_judged_promises k__law_judged_promises a_law l_law c_law k_law pne0 p1_Can p2_Can p3_Can p4_Can p5_Can p6_Can p7_Can p8_Can p9_Can pk_Can ni_Can p1_Barred p2_Barred p3_Barred p4_Barred p5_Barred p6_Barred p7_Barred p8_Barred p9_Barred pk_Barred ni_Barred p1_Good p2_Good p3_Good p4_Good p5_Good p6_Good p7_Good p8_Good p9_Good pk_Good ni_Good p1_Off p2_Off p3_Off p4_Off p5_Off p6_Off p7_Off p8_Off p9_Off pk_Off na_Off x_PairError xk_PairError xs_PairError xt_PairError xd_PairError x_BadLast xk_BadLast xs_BadLast xt_BadLast xd_BadLast yg_BadLast yh_BadLast ya_BadLast yn_BadLast yt_BadLast ym_BadLast yp_BadLast kv_BadLast x_BadNumber xk_BadNumber xs_BadNumber xt_BadNumber xd_BadNumber yg_BadNumber yh_BadNumber ya_BadNumber yn_BadNumber yt_BadNumber ym_BadNumber yp_BadNumber kv_BadNumber x_BadPlace xk_BadPlace xs_BadPlace xt_BadPlace xd_BadPlace yg_BadPlace yh_BadPlace ya_BadPlace yn_BadPlace yt_BadPlace ym_BadPlace yp_BadPlace kv_BadPlace x_BadRow xk_BadRow xs_BadRow xt_BadRow xd_BadRow yg_BadRow yh_BadRow ya_BadRow yn_BadRow yt_BadRow ym_BadRow yp_BadRow kv_BadRow x_NoRow xk_NoRow xs_NoRow xt_NoRow xd_NoRow yg_NoRow yh_NoRow ya_NoRow yn_NoRow yt_NoRow ym_NoRow yp_NoRow kv_NoRow z_GREATEST z_FIRSTS l_FIRSTS l_F1 l_F4 l_F5 z_MOST m_ValueError m_abs m_all m_any m_bool m_int m_isinstance m_len m_list m_range m_set m_sorted m_str m_sum m_tuple m_zip ke_BadLast_BadLast ke_BadLast_BadNumber ke_BadLast_BadPlace ke_BadLast_BadRow ke_BadLast_NoRow ke_BadNumber_BadLast ke_BadNumber_BadNumber ke_BadNumber_BadPlace ke_BadNumber_BadRow ke_BadNumber_NoRow ke_BadPlace_BadLast ke_BadPlace_BadNumber ke_BadPlace_BadPlace ke_BadPlace_BadRow ke_BadPlace_NoRow ke_BadRow_BadLast ke_BadRow_BadNumber ke_BadRow_BadPlace ke_BadRow_BadRow ke_BadRow_NoRow ke_NoRow_BadLast ke_NoRow_BadNumber ke_NoRow_BadPlace ke_NoRow_BadRow ke_NoRow_NoRow kit_Can_Answer kit_Can_Can kit_Can_Barred kit_Can_Good kit_Can_Off kit_Barred_Answer kit_Barred_Can kit_Barred_Barred kit_Barred_Good kit_Barred_Off kit_Good_Answer kit_Good_Can kit_Good_Barred kit_Good_Good kit_Good_Off kit_Off_Answer kit_Off_Can kit_Off_Barred kit_Off_Good kit_Off_Off) (TB (q__law_known_right, p__law_known_right) (by simp)) (TB (q__law_first_right, p__law_first_right) (by simp))⟩

end PA
open PySem PySem.W PyProof.Rows
set_option maxRecDepth 100000 in
set_option maxHeartbeats 0 in
theorem PySem.Challenge.cw_pairsapart_k07_whole_known_holds : PySem.Challenge.rw_pairsapart_k07_whole_known.Holds := by
  w_on; o_law; k_head; (case hw => w_witness2)
  k_fill
  refine PA.walk_tabs (l := PySem.Challenge.rw_pairsapart_k07_whole_known) (n := 63) (k := 9) (x := "_law_script") (CX := fun _ => L2.CX0) ["_law_known_right", "_law_first_right"] rfl (by decide) rfl ⟨rfl, by decide, by decide⟩ (by decide +kernel) (fun w h Y => PySem.W.km_in_of Y) ?F (fun _ _ _ _ _ h => h)
  case F =>
    intro w mg fa h _ KX G hmg tabs
    refine' PA.all_mk tabs KX G hmg ?z_Answer ?z_Can ?z_Barred ?z_Good ?z_Off ?z_PairError ?z_BadLast ?z_BadNumber ?z_BadPlace ?z_BadRow ?z_NoRow ?a_Can_shows ?i_Can_shows ?l_Can_shows ?c_Can_shows ?k_Can_shows ?a_Barred_shows ?i_Barred_shows ?l_Barred_shows ?c_Barred_shows ?k_Barred_shows ?a_is_right ?l_is_right ?c_is_right ?k_is_right ?a_Good_shows ?i_Good_shows ?l_Good_shows ?c_Good_shows ?k_Good_shows ?a_Off___init__ ?i_Off___init__ ?l_Off___init__ ?c_Off___init__ ?k_Off___init__ ?a_Off_shows ?i_Off_shows ?l_Off_shows ?c_Off_shows ?k_Off_shows ?a_is_number ?l_is_number ?c_is_number ?k_is_number ?a_asked_last ?l_asked_last ?c_asked_last ?k_asked_last ?a_can ?l_can ?c_can ?k_can ?a_asked_row ?l_asked_row ?c_asked_row ?k_asked_row ?a_first_by_fours ?l_first_by_fours ?c_first_by_fours ?k_first_by_fours ?a_first_by_ones ?l_first_by_ones ?c_first_by_ones ?k_first_by_ones ?a_first_of ?l_first_of ?c_first_of ?k_first_of ?a_both ?l_both ?c_both ?k_both ?a_places_of ?l_places_of ?c_places_of ?k_places_of ?a_at_place ?l_at_place ?c_at_place ?k_at_place ?a_number_at ?l_number_at ?c_number_at ?k_number_at ?a_row ?l_row ?c_row ?k_row ?a_asked_list ?l_asked_list ?c_asked_list ?k_asked_list ?a_told ?l_told ?c_told ?k_told ?a_mirrored ?l_mirrored ?c_mirrored ?k_mirrored ?a_three_by ?l_three_by ?c_three_by ?k_three_by ?a_three_of ?l_three_of ?c_three_of ?k_three_of ?a__law_refused ?l__law_refused ?c__law_refused ?k__law_refused ?a__law_plain ?l__law_plain ?c__law_plain ?k__law_plain ?a__law_truths ?l__law_truths ?c__law_truths ?k__law_truths ?a__law_long_right ?l__law_long_right ?c__law_long_right ?k__law_long_right ?a__law_known_right ?l__law_known_right ?c__law_known_right ?k__law_known_right ?qk__law_known_right ?qp__law_known_right ?qh__law_known_right ?qn__law_known_right ?a__law_first_right ?l__law_first_right ?c__law_first_right ?k__law_first_right ?qk__law_first_right ?qp__law_first_right ?qh__law_first_right ?qn__law_first_right ?a__law_threes_promises ?l__law_threes_promises ?c__law_threes_promises ?k__law_threes_promises ?a__law_promises_right ?l__law_promises_right ?c__law_promises_right ?k__law_promises_right ?a__law_judged_promises ?l__law_judged_promises ?c__law_judged_promises ?k__law_judged_promises ?a_law ?l_law ?c_law ?k_law ?pne0 ?p1_Can ?p2_Can ?p3_Can ?p4_Can ?p5_Can ?p6_Can ?p7_Can ?p8_Can ?p9_Can ?pk_Can ?ni_Can ?p1_Barred ?p2_Barred ?p3_Barred ?p4_Barred ?p5_Barred ?p6_Barred ?p7_Barred ?p8_Barred ?p9_Barred ?pk_Barred ?ni_Barred ?p1_Good ?p2_Good ?p3_Good ?p4_Good ?p5_Good ?p6_Good ?p7_Good ?p8_Good ?p9_Good ?pk_Good ?ni_Good ?p1_Off ?p2_Off ?p3_Off ?p4_Off ?p5_Off ?p6_Off ?p7_Off ?p8_Off ?p9_Off ?pk_Off ?na_Off ?x_PairError ?xk_PairError ?xs_PairError ?xt_PairError ?xd_PairError ?x_BadLast ?xk_BadLast ?xs_BadLast ?xt_BadLast ?xd_BadLast ?yg_BadLast ?yh_BadLast ?ya_BadLast ?yn_BadLast ?yt_BadLast ?ym_BadLast ?yp_BadLast ?kv_BadLast ?x_BadNumber ?xk_BadNumber ?xs_BadNumber ?xt_BadNumber ?xd_BadNumber ?yg_BadNumber ?yh_BadNumber ?ya_BadNumber ?yn_BadNumber ?yt_BadNumber ?ym_BadNumber ?yp_BadNumber ?kv_BadNumber ?x_BadPlace ?xk_BadPlace ?xs_BadPlace ?xt_BadPlace ?xd_BadPlace ?yg_BadPlace ?yh_BadPlace ?ya_BadPlace ?yn_BadPlace ?yt_BadPlace ?ym_BadPlace ?yp_BadPlace ?kv_BadPlace ?x_BadRow ?xk_BadRow ?xs_BadRow ?xt_BadRow ?xd_BadRow ?yg_BadRow ?yh_BadRow ?ya_BadRow ?yn_BadRow ?yt_BadRow ?ym_BadRow ?yp_BadRow ?kv_BadRow ?x_NoRow ?xk_NoRow ?xs_NoRow ?xt_NoRow ?xd_NoRow ?yg_NoRow ?yh_NoRow ?ya_NoRow ?yn_NoRow ?yt_NoRow ?ym_NoRow ?yp_NoRow ?kv_NoRow ?z_GREATEST ?z_FIRSTS ?l_FIRSTS ?l_F1 ?l_F4 ?l_F5 ?z_MOST ?m_ValueError ?m_abs ?m_all ?m_any ?m_bool ?m_int ?m_isinstance ?m_len ?m_list ?m_range ?m_set ?m_sorted ?m_str ?m_sum ?m_tuple ?m_zip ?ke_BadLast_BadLast ?ke_BadLast_BadNumber ?ke_BadLast_BadPlace ?ke_BadLast_BadRow ?ke_BadLast_NoRow ?ke_BadNumber_BadLast ?ke_BadNumber_BadNumber ?ke_BadNumber_BadPlace ?ke_BadNumber_BadRow ?ke_BadNumber_NoRow ?ke_BadPlace_BadLast ?ke_BadPlace_BadNumber ?ke_BadPlace_BadPlace ?ke_BadPlace_BadRow ?ke_BadPlace_NoRow ?ke_BadRow_BadLast ?ke_BadRow_BadNumber ?ke_BadRow_BadPlace ?ke_BadRow_BadRow ?ke_BadRow_NoRow ?ke_NoRow_BadLast ?ke_NoRow_BadNumber ?ke_NoRow_BadPlace ?ke_NoRow_BadRow ?ke_NoRow_NoRow ?kit_Can_Answer ?kit_Can_Can ?kit_Can_Barred ?kit_Can_Good ?kit_Can_Off ?kit_Barred_Answer ?kit_Barred_Can ?kit_Barred_Barred ?kit_Barred_Good ?kit_Barred_Off ?kit_Good_Answer ?kit_Good_Can ?kit_Good_Barred ?kit_Good_Good ?kit_Good_Off ?kit_Off_Answer ?kit_Off_Can ?kit_Off_Barred ?kit_Off_Good ?kit_Off_Off
    (case z_Answer => k_is)
    (case z_Can => k_is)
    (case z_Barred => k_is)
    (case z_Good => k_is)
    (case z_Off => k_is)
    (case z_PairError => k_is)
    (case z_BadLast => k_is)
    (case z_BadNumber => k_is)
    (case z_BadPlace => k_is)
    (case z_BadRow => k_is)
    (case z_NoRow => k_is)
    (case a_Can_shows => k_is)
    (case i_Can_shows => k_is)
    (case l_Can_shows => k_is)
    (case c_Can_shows => k_is)
    (case k_Can_shows => k_is)
    (case a_Barred_shows => k_is)
    (case i_Barred_shows => k_is)
    (case l_Barred_shows => k_is)
    (case c_Barred_shows => k_is)
    (case k_Barred_shows => k_is)
    (case a_is_right => k_is)
    (case l_is_right => k_is)
    (case c_is_right => k_is)
    (case k_is_right => k_is)
    (case a_Good_shows => k_is)
    (case i_Good_shows => k_is)
    (case l_Good_shows => k_is)
    (case c_Good_shows => k_is)
    (case k_Good_shows => k_is)
    (case a_Off___init__ => k_is)
    (case i_Off___init__ => k_is)
    (case l_Off___init__ => k_is)
    (case c_Off___init__ => k_is)
    (case k_Off___init__ => k_is)
    (case a_Off_shows => k_is)
    (case i_Off_shows => k_is)
    (case l_Off_shows => k_is)
    (case c_Off_shows => k_is)
    (case k_Off_shows => k_is)
    (case a_is_number => k_is)
    (case l_is_number => k_is)
    (case c_is_number => k_is)
    (case k_is_number => k_is)
    (case a_asked_last => k_is)
    (case l_asked_last => k_is)
    (case c_asked_last => k_is)
    (case k_asked_last => k_is)
    (case a_can => k_is)
    (case l_can => k_is)
    (case c_can => k_is)
    (case k_can => k_is)
    (case a_asked_row => k_is)
    (case l_asked_row => k_is)
    (case c_asked_row => k_is)
    (case k_asked_row => k_is)
    (case a_first_by_fours => k_is)
    (case l_first_by_fours => k_is)
    (case c_first_by_fours => k_is)
    (case k_first_by_fours => k_is)
    (case a_first_by_ones => k_is)
    (case l_first_by_ones => k_is)
    (case c_first_by_ones => k_is)
    (case k_first_by_ones => k_is)
    (case a_first_of => k_is)
    (case l_first_of => k_is)
    (case c_first_of => k_is)
    (case k_first_of => k_is)
    (case a_both => k_is)
    (case l_both => k_is)
    (case c_both => k_is)
    (case k_both => k_is)
    (case a_places_of => k_is)
    (case l_places_of => k_is)
    (case c_places_of => k_is)
    (case k_places_of => k_is)
    (case a_at_place => k_is)
    (case l_at_place => k_is)
    (case c_at_place => k_is)
    (case k_at_place => k_is)
    (case a_number_at => k_is)
    (case l_number_at => k_is)
    (case c_number_at => k_is)
    (case k_number_at => k_is)
    (case a_row => k_is)
    (case l_row => k_is)
    (case c_row => k_is)
    (case k_row => k_is)
    (case a_asked_list => k_is)
    (case l_asked_list => k_is)
    (case c_asked_list => k_is)
    (case k_asked_list => k_is)
    (case a_told => k_is)
    (case l_told => k_is)
    (case c_told => k_is)
    (case k_told => k_is)
    (case a_mirrored => k_is)
    (case l_mirrored => k_is)
    (case c_mirrored => k_is)
    (case k_mirrored => k_is)
    (case a_three_by => k_is)
    (case l_three_by => k_is)
    (case c_three_by => k_is)
    (case k_three_by => k_is)
    (case a_three_of => k_is)
    (case l_three_of => k_is)
    (case c_three_of => k_is)
    (case k_three_of => k_is)
    (case a__law_refused => k_is)
    (case l__law_refused => k_is)
    (case c__law_refused => k_is)
    (case k__law_refused => k_is)
    (case a__law_plain => k_is)
    (case l__law_plain => k_is)
    (case c__law_plain => k_is)
    (case k__law_plain => k_is)
    (case a__law_truths => k_is)
    (case l__law_truths => k_is)
    (case c__law_truths => k_is)
    (case k__law_truths => k_is)
    (case a__law_long_right => k_is)
    (case l__law_long_right => k_is)
    (case c__law_long_right => k_is)
    (case k__law_long_right => k_is)
    (case a__law_known_right => k_is)
    (case l__law_known_right => k_is)
    (case c__law_known_right => k_is)
    (case k__law_known_right => k_is)
    (case qk__law_known_right => k_is)
    (case qp__law_known_right => rfl)
    (case qh__law_known_right => rfl)
    (case qn__law_known_right => rfl)
    (case a__law_first_right => k_is)
    (case l__law_first_right => k_is)
    (case c__law_first_right => k_is)
    (case k__law_first_right => k_is)
    (case qk__law_first_right => k_is)
    (case qp__law_first_right => rfl)
    (case qh__law_first_right => rfl)
    (case qn__law_first_right => rfl)
    (case a__law_threes_promises => k_is)
    (case l__law_threes_promises => k_is)
    (case c__law_threes_promises => k_is)
    (case k__law_threes_promises => k_is)
    (case a__law_promises_right => k_is)
    (case l__law_promises_right => k_is)
    (case c__law_promises_right => k_is)
    (case k__law_promises_right => k_is)
    (case a__law_judged_promises => k_is)
    (case l__law_judged_promises => k_is)
    (case c__law_judged_promises => k_is)
    (case k__law_judged_promises => k_is)
    (case a_law => k_is)
    (case l_law => k_is)
    (case c_law => k_is)
    (case k_law => k_is)
    (case pne0 => first | decide | k_is | (intro z; cases z))
    (case p1_Can => k_is)
    (case p2_Can => k_is)
    (case p3_Can => k_is)
    (case p4_Can => k_is)
    (case p5_Can => k_is)
    (case p6_Can => k_is)
    (case p7_Can => k_is)
    (case p8_Can => k_is)
    (case p9_Can => k_is)
    (case pk_Can => k_is)
    (case ni_Can => k_is)
    (case p1_Barred => k_is)
    (case p2_Barred => k_is)
    (case p3_Barred => k_is)
    (case p4_Barred => k_is)
    (case p5_Barred => k_is)
    (case p6_Barred => k_is)
    (case p7_Barred => k_is)
    (case p8_Barred => k_is)
    (case p9_Barred => k_is)
    (case pk_Barred => k_is)
    (case ni_Barred => k_is)
    (case p1_Good => k_is)
    (case p2_Good => k_is)
    (case p3_Good => k_is)
    (case p4_Good => k_is)
    (case p5_Good => k_is)
    (case p6_Good => k_is)
    (case p7_Good => k_is)
    (case p8_Good => k_is)
    (case p9_Good => k_is)
    (case pk_Good => k_is)
    (case ni_Good => k_is)
    (case p1_Off => k_is)
    (case p2_Off => k_is)
    (case p3_Off => k_is)
    (case p4_Off => k_is)
    (case p5_Off => k_is)
    (case p6_Off => k_is)
    (case p7_Off => k_is)
    (case p8_Off => k_is)
    (case p9_Off => k_is)
    (case pk_Off => k_is)
    (case na_Off => k_is)
    (case x_PairError => k_exc)
    (case xk_PairError => k_is)
    (case xs_PairError => k_is)
    (case xt_PairError => k_is)
    (case xd_PairError => k_is)
    (case x_BadLast => k_exc)
    (case xk_BadLast => k_is)
    (case xs_BadLast => k_is)
    (case xt_BadLast => k_is)
    (case xd_BadLast => k_is)
    (case yg_BadLast => k_is)
    (case yh_BadLast => k_is)
    (case ya_BadLast => k_is)
    (case yn_BadLast => k_is)
    (case yt_BadLast => k_is)
    (case ym_BadLast => k_is)
    (case yp_BadLast => first | rfl | k_is)
    (case kv_BadLast => first | rfl | k_is)
    (case x_BadNumber => k_exc)
    (case xk_BadNumber => k_is)
    (case xs_BadNumber => k_is)
    (case xt_BadNumber => k_is)
    (case xd_BadNumber => k_is)
    (case yg_BadNumber => k_is)
    (case yh_BadNumber => k_is)
    (case ya_BadNumber => k_is)
    (case yn_BadNumber => k_is)
    (case yt_BadNumber => k_is)
    (case ym_BadNumber => k_is)
    (case yp_BadNumber => first | rfl | k_is)
    (case kv_BadNumber => first | rfl | k_is)
    (case x_BadPlace => k_exc)
    (case xk_BadPlace => k_is)
    (case xs_BadPlace => k_is)
    (case xt_BadPlace => k_is)
    (case xd_BadPlace => k_is)
    (case yg_BadPlace => k_is)
    (case yh_BadPlace => k_is)
    (case ya_BadPlace => k_is)
    (case yn_BadPlace => k_is)
    (case yt_BadPlace => k_is)
    (case ym_BadPlace => k_is)
    (case yp_BadPlace => first | rfl | k_is)
    (case kv_BadPlace => first | rfl | k_is)
    (case x_BadRow => k_exc)
    (case xk_BadRow => k_is)
    (case xs_BadRow => k_is)
    (case xt_BadRow => k_is)
    (case xd_BadRow => k_is)
    (case yg_BadRow => k_is)
    (case yh_BadRow => k_is)
    (case ya_BadRow => k_is)
    (case yn_BadRow => k_is)
    (case yt_BadRow => k_is)
    (case ym_BadRow => k_is)
    (case yp_BadRow => first | rfl | k_is)
    (case kv_BadRow => first | rfl | k_is)
    (case x_NoRow => k_exc)
    (case xk_NoRow => k_is)
    (case xs_NoRow => k_is)
    (case xt_NoRow => k_is)
    (case xd_NoRow => k_is)
    (case yg_NoRow => k_is)
    (case yh_NoRow => k_is)
    (case ya_NoRow => k_is)
    (case yn_NoRow => k_is)
    (case yt_NoRow => k_is)
    (case ym_NoRow => k_is)
    (case yp_NoRow => first | rfl | k_is)
    (case kv_NoRow => first | rfl | k_is)
    (case z_GREATEST => k_is)
    (case z_FIRSTS => k_is)
    (case l_FIRSTS => k_is)
    (case l_F1 => k_is)
    (case l_F4 => k_is)
    (case l_F5 => k_is)
    (case z_MOST => k_is)
    (case m_ValueError => k_is)
    (case m_abs => k_is)
    (case m_all => k_is)
    (case m_any => k_is)
    (case m_bool => k_is)
    (case m_int => k_is)
    (case m_isinstance => k_is)
    (case m_len => k_is)
    (case m_list => k_is)
    (case m_range => k_is)
    (case m_set => k_is)
    (case m_sorted => k_is)
    (case m_str => k_is)
    (case m_sum => k_is)
    (case m_tuple => k_is)
    (case m_zip => k_is)
    (case ke_BadLast_BadLast => first | rfl | k_is)
    (case ke_BadLast_BadNumber => first | rfl | k_is)
    (case ke_BadLast_BadPlace => first | rfl | k_is)
    (case ke_BadLast_BadRow => first | rfl | k_is)
    (case ke_BadLast_NoRow => first | rfl | k_is)
    (case ke_BadNumber_BadLast => first | rfl | k_is)
    (case ke_BadNumber_BadNumber => first | rfl | k_is)
    (case ke_BadNumber_BadPlace => first | rfl | k_is)
    (case ke_BadNumber_BadRow => first | rfl | k_is)
    (case ke_BadNumber_NoRow => first | rfl | k_is)
    (case ke_BadPlace_BadLast => first | rfl | k_is)
    (case ke_BadPlace_BadNumber => first | rfl | k_is)
    (case ke_BadPlace_BadPlace => first | rfl | k_is)
    (case ke_BadPlace_BadRow => first | rfl | k_is)
    (case ke_BadPlace_NoRow => first | rfl | k_is)
    (case ke_BadRow_BadLast => first | rfl | k_is)
    (case ke_BadRow_BadNumber => first | rfl | k_is)
    (case ke_BadRow_BadPlace => first | rfl | k_is)
    (case ke_BadRow_BadRow => first | rfl | k_is)
    (case ke_BadRow_NoRow => first | rfl | k_is)
    (case ke_NoRow_BadLast => first | rfl | k_is)
    (case ke_NoRow_BadNumber => first | rfl | k_is)
    (case ke_NoRow_BadPlace => first | rfl | k_is)
    (case ke_NoRow_BadRow => first | rfl | k_is)
    (case ke_NoRow_NoRow => first | rfl | k_is)
    (case kit_Can_Answer => first | rfl | k_is)
    (case kit_Can_Can => first | rfl | k_is)
    (case kit_Can_Barred => first | rfl | k_is)
    (case kit_Can_Good => first | rfl | k_is)
    (case kit_Can_Off => first | rfl | k_is)
    (case kit_Barred_Answer => first | rfl | k_is)
    (case kit_Barred_Can => first | rfl | k_is)
    (case kit_Barred_Barred => first | rfl | k_is)
    (case kit_Barred_Good => first | rfl | k_is)
    (case kit_Barred_Off => first | rfl | k_is)
    (case kit_Good_Answer => first | rfl | k_is)
    (case kit_Good_Can => first | rfl | k_is)
    (case kit_Good_Barred => first | rfl | k_is)
    (case kit_Good_Good => first | rfl | k_is)
    (case kit_Good_Off => first | rfl | k_is)
    (case kit_Off_Answer => first | rfl | k_is)
    (case kit_Off_Can => first | rfl | k_is)
    (case kit_Off_Barred => first | rfl | k_is)
    (case kit_Off_Good => first | rfl | k_is)
    (case kit_Off_Off => first | rfl | k_is)

