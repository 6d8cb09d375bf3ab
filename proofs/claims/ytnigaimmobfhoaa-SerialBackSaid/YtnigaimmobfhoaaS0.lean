/-
laws 04, plain: long numbers as the document finds them. No program.
-/
import Derived.Test.YtnigaimmobfhoaaSxt
namespace Go.Proofs.Ytnigaimmobfhoaa
open Sx Go.RowKit

def sAdd (a n : Int) : Int := (a + n) % 4294967296
def sDiff (a b : Int) : Int := (a - b + 2147483648) % 4294967296 - 2147483648
def sLess (a b : Int) : Bool := decide (sDiff a b < 0)
def sIn (a f n : Int) : Bool := decide (0 < n ∧ (a - f) % 4294967296 < n)
def sShort (n : Int) : Int := n % 4294967296
def sNear (n : Int) : Int := max 0 (min n 1099511627776)
def sLong (near a : Int) : Int :=
  let m := sNear near
  let n := m + sDiff a (sShort m)
  let n := if n < m - 2147483647 then n + 4294967296 else n
  if n < 0 then n + 4294967296 else n
def sAbs (n : Int) : Int := if n < 0 then -n else n

theorem quo_round {x : Int} (h : 0 ≤ x) : x.tdiv 4294967296 = x / 4294967296 := Int.tdiv_eq_ediv_of_nonneg h
theorem tmod_round (x : Int) : x.tmod 4294967296 = if 0 ≤ x then x % 4294967296 else -((-x) % 4294967296) := by
  split
  · next h => exact Int.tmod_eq_emod_of_nonneg h
  · next h =>
    have := Int.neg_tmod (a := -x) (b := 4294967296)
    rw [Int.neg_neg] at this
    rw [this, Int.tmod_eq_emod_of_nonneg (by omega)]

def lNum (near a k : Int) : Int := (near / 4294967296 + k) * 4294967296 + a
def lStep (near a : Int) (b : Int) (k : Int) : Int := if 0 ≤ lNum near a k ∧ (b < 0 ∨ sAbs (lNum near a k - near) ≤ sAbs (b - near)) then lNum near a k else b
def lBest (near a : Int) : Nat → Int
  | 0 => -1
  | i + 1 => lStep near a (lBest near a i) ((i : Int) - 1)
theorem lNum_bd (near a : Int) (h0 : 0 ≤ near) (h1 : near ≤ 1099511627776) (ha : 0 ≤ a) (ha' : a < 4294967296) (k : Int) (hk : -1 ≤ k) (hk1 : k ≤ 1) : -4294967296 ≤ lNum near a k ∧ lNum near a k ≤ 1108101562368 := by unfold lNum; omega
theorem lBest_bd (near a : Int) (h0 : 0 ≤ near) (h1 : near ≤ 1099511627776) (ha : 0 ≤ a) (ha' : a < 4294967296) : ∀ i, i ≤ 3 → -1 ≤ lBest near a i ∧ lBest near a i ≤ 1108101562368
  | 0, _ => by simp [lBest]
  | i + 1, hi => by
    have := lBest_bd near a h0 h1 ha ha' i (by omega)
    have := lNum_bd near a h0 h1 ha ha' ((i : Int) - 1) (by omega) (by omega)
    simp only [lBest, lStep]
    split <;> omega
theorem sAbs_neg {n : Int} (h : n < 0) : sAbs n = -n := if_pos h
theorem sAbs_pos {n : Int} (h : 0 ≤ n) : sAbs n = n := if_neg (by omega)
set_option maxHeartbeats 4000000 in
theorem lBest_eq (near a : Int) (ha : 0 ≤ a) (ha' : a < 4294967296) : lBest (sNear near) a 3 = sLong near a := by
  have h0 : 0 ≤ sNear near ∧ sNear near ≤ 1099511627776 := by unfold sNear; omega
  simp only [sLong, sShort, sDiff]
  generalize sNear near = m at *
  have k0 : lNum m a (((0 : Nat) : Int) - 1) = m - m % 4294967296 - 4294967296 + a := by unfold lNum; omega
  have k1 : lNum m a (((0 + 1 : Nat) : Int) - 1) = m - m % 4294967296 + a := by unfold lNum; omega
  have k2 : lNum m a (((0 + 1 + 1 : Nat) : Int) - 1) = m - m % 4294967296 + 4294967296 + a := by unfold lNum; omega
  have lp : ∀ {b k n : Int}, lNum m a k = n → 0 ≤ n → (b < 0 ∨ sAbs (n - m) ≤ sAbs (b - m)) → lStep m a b k = n := fun h h1 h2 => by subst h; exact if_pos ⟨h1, h2⟩
  have ln : ∀ {b k n : Int}, lNum m a k = n → ¬ (0 ≤ n ∧ (b < 0 ∨ sAbs (n - m) ≤ sAbs (b - m))) → lStep m a b k = b := fun h h1 => by subst h; exact if_neg h1
  have s0 : lBest m a (0 + 1) = lStep m a (-1) (((0 : Nat) : Int) - 1) := rfl
  have s1 : lBest m a (0 + 1 + 1) = lStep m a (lBest m a (0 + 1)) (((0 + 1 : Nat) : Int) - 1) := rfl
  have s2 : lBest m a (0 + 1 + 1 + 1) = lStep m a (lBest m a (0 + 1 + 1)) (((0 + 1 + 1 : Nat) : Int) - 1) := rfl
  show lBest m a (0 + 1 + 1 + 1) = _
  have a2 := sAbs_pos (n := m - m % 4294967296 + 4294967296 + a - m) (by omega)
  by_cases hq : 4294967296 ≤ m
  · rw [lp k0 (by omega) (.inl (by omega))] at s0
    have a0 := sAbs_neg (n := m - m % 4294967296 - 4294967296 + a - m) (by omega)
    by_cases he : 2147483648 < a - m % 4294967296
    · have a1 := sAbs_pos (n := m - m % 4294967296 + a - m) (by omega)
      rw [s0, ln k1 (by omega)] at s1
      rw [s2, s1, ln k2 (by omega)]
      (repeat' split) <;> omega
    · have a1 : sAbs (m - m % 4294967296 + a - m) ≤ sAbs (m - m % 4294967296 - 4294967296 + a - m) := by rw [a0]; unfold sAbs; split <;> omega
      rw [s0, lp k1 (by omega) (.inr a1)] at s1
      by_cases hf : a - m % 4294967296 ≤ -2147483648
      · have a3 := sAbs_neg (n := m - m % 4294967296 + a - m) (by omega)
        rw [s2, s1, lp k2 (by omega) (.inr (by omega))]
        (repeat' split) <;> omega
      · have a3 : ¬ (m - m % 4294967296 + 4294967296 + a - m ≤ sAbs (m - m % 4294967296 + a - m)) := by unfold sAbs; split <;> omega
        rw [s2, s1, ln k2 (by omega)]
        (repeat' split) <;> omega
  · rw [ln k0 (by omega)] at s0
    rw [s0, lp k1 (by omega) (.inl (by omega))] at s1
    by_cases hf : a - m % 4294967296 ≤ -2147483648
    · have a3 := sAbs_neg (n := m - m % 4294967296 + a - m) (by omega)
      rw [s2, s1, lp k2 (by omega) (.inr (by omega))]
      (repeat' split) <;> omega
    · have a3 : ¬ (m - m % 4294967296 + 4294967296 + a - m ≤ sAbs (m - m % 4294967296 + a - m)) := by unfold sAbs; split <;> omega
      rw [s2, s1, ln k2 (by omega)]
      (repeat' split) <;> omega

def lat1 (from' : Int) (b x : Int) : Int := if sDiff x from' > sDiff b from' then x else b
def sLatest (l : List Int) (from' : Int) : Int := l.foldl (lat1 from') from'
theorem foldl_snoc {α β : Type} (f : α → β → α) (s : α) (l : List β) (j : Nat) (x : β) (h : l[j]? = some x) : (l.take (j + 1)).foldl f s = f ((l.take j).foldl f s) x := by
  rw [List.take_add_one, h, List.foldl_append]; rfl
end Go.Proofs.Ytnigaimmobfhoaa
