/-
laws 01, plain: bytes read from the front, numbers laid. No program.
-/
import Derived.Test.YtekhpiiediooiaaSxt
namespace Go.Proofs.Ytekhpiiediooiaa.C01
open Sx Go.RowKit

structure Cur where
  d : List UInt8
  i : Int
  b : Int
def cIn (c : Cur) : Prop := 0 ≤ c.i ∧ c.i ≤ (c.d.length : Int)
instance (c : Cur) : Decidable (cIn c) := inferInstanceAs (Decidable (_ ∧ _))
def cFail (c : Cur) (e : Int) : Cur := if c.b = 0 then ⟨c.d, c.i, e⟩ else c
def cLeft (c : Cur) : Int := if c.b = 0 ∧ cIn c then (c.d.length : Int) - c.i else 0
def cDone (c : Cur) : Int := if c.b ≠ 0 then c.b else if ¬ cIn c then 8 else if c.i < (c.d.length : Int) then 4 else 0
def cTakeC (c : Cur) (n : Int) : Cur :=
  if c.b ≠ 0 then c else if ¬ cIn c then ⟨c.d, c.i, 8⟩ else if n < 0 then ⟨c.d, c.i, 2⟩ else if (c.d.length : Int) - c.i < n then ⟨c.d, c.i, 3⟩ else ⟨c.d, c.i + n, 0⟩
def cTakeS (c : Cur) (n : Int) : List UInt8 :=
  if c.b ≠ 0 ∨ ¬ cIn c ∨ n < 0 ∨ (c.d.length : Int) - c.i < n then [] else (c.d.take (c.i + n).toNat).drop c.i.toNat
def cNum (s : List UInt8) : Int := s.foldl (fun r c => r * 256 + (c.toNat : Int)) 0
def cOdd (c : Cur) (n : Int) : Prop := c.b = 0 ∧ cIn c ∧ (n < 1 ∨ 7 < n)
instance (c : Cur) (n : Int) : Decidable (cOdd c n) := inferInstanceAs (Decidable (_ ∧ _ ∧ _))
def cNumC (c : Cur) (n : Int) : Cur := if cOdd c n then ⟨c.d, c.i, 2⟩ else cTakeC c n
def cNumN (c : Cur) (n : Int) : Int := if cOdd c n then 0 else cNum (cTakeS c n)
def cOpen (s : List UInt8) : Cur := ⟨s, 0, 0⟩
def cD (c : Cur) : D := .agg [.str c.d, .int .i64 c.i, .int .i64 c.b]

theorem odd_yes {c : Cur} {n : Int} (h : cOdd c n) : cNumC c n = ⟨c.d, c.i, 2⟩ ∧ cNumN c n = 0 := ⟨if_pos h, if_pos h⟩
theorem odd_no {c : Cur} {n : Int} (h : ¬ cOdd c n) : cNumC c n = cTakeC c n ∧ cNumN c n = cNum (cTakeS c n) := ⟨if_neg h, if_neg h⟩
theorem take_bad {c : Cur} {n : Int} (h : c.b ≠ 0) : cTakeC c n = c ∧ cTakeS c n = [] := ⟨if_pos h, if_pos (.inl h)⟩
theorem take_out {c : Cur} {n : Int} (h : c.b = 0) (g : ¬ cIn c) : cTakeC c n = ⟨c.d, c.i, 8⟩ ∧ cTakeS c n = [] := by
  refine ⟨?_, if_pos (.inr (.inl g))⟩
  unfold cTakeC; rw [if_neg (by simp [h]), if_pos g]
theorem take_neg {c : Cur} {n : Int} (h : c.b = 0) (g : cIn c) (k : n < 0) : cTakeC c n = ⟨c.d, c.i, 2⟩ ∧ cTakeS c n = [] := by
  refine ⟨?_, if_pos (.inr (.inr (.inl k)))⟩
  unfold cTakeC; rw [if_neg (by simp [h]), if_neg (by simpa using g), if_pos k]
theorem take_cut {c : Cur} {n : Int} (h : c.b = 0) (g : cIn c) (k : ¬ n < 0) (m : (c.d.length : Int) - c.i < n) : cTakeC c n = ⟨c.d, c.i, 3⟩ ∧ cTakeS c n = [] := by
  refine ⟨?_, if_pos (.inr (.inr (.inr m)))⟩
  unfold cTakeC; rw [if_neg (by simp [h]), if_neg (by simpa using g), if_neg k, if_pos m]
theorem take_yes {c : Cur} {n : Int} (h : c.b = 0) (g : cIn c) (k : ¬ n < 0) (m : ¬ (c.d.length : Int) - c.i < n) : cTakeC c n = ⟨c.d, c.i + n, 0⟩ ∧ cTakeS c n = (c.d.take (c.i + n).toNat).drop c.i.toNat := by
  refine ⟨?_, if_neg ?_⟩
  · unfold cTakeC; rw [if_neg (by simp [h]), if_neg (by simpa using g), if_neg k, if_neg m]
  · rintro (h1 | h1 | h1 | h1)
    · exact h1 h
    · exact h1 g
    · exact k h1
    · exact m h1
theorem left_yes {c : Cur} (h : c.b = 0) (g : cIn c) : cLeft c = (c.d.length : Int) - c.i := if_pos ⟨h, g⟩
theorem left_no {c : Cur} (h : ¬ (c.b = 0 ∧ cIn c)) : cLeft c = 0 := if_neg h
theorem left_nn (c : Cur) : 0 ≤ cLeft c := by unfold cLeft cIn; split <;> omega
theorem done_bad {c : Cur} (h : c.b ≠ 0) : cDone c = c.b := if_pos h
theorem done_out {c : Cur} (h : c.b = 0) (g : ¬ cIn c) : cDone c = 8 := by unfold cDone; rw [if_neg (by simp [h]), if_pos g]
theorem done_more {c : Cur} (h : c.b = 0) (g : cIn c) (m : c.i < (c.d.length : Int)) : cDone c = 4 := by unfold cDone; rw [if_neg (by simp [h]), if_neg (by simpa using g), if_pos m]
theorem done_all {c : Cur} (h : c.b = 0) (g : cIn c) (m : ¬ c.i < (c.d.length : Int)) : cDone c = 0 := by unfold cDone; rw [if_neg (by simp [h]), if_neg (by simpa using g), if_neg m]
theorem takeS_len {c : Cur} {n : Int} (h : ¬ cOdd c n) : (cTakeS c n).length ≤ 7 := by
  unfold cTakeS
  split
  · simp
  · next hn =>
    simp only [not_or, Decidable.not_not] at hn
    have : 1 ≤ n ∧ n ≤ 7 := by
      unfold cOdd at h
      by_cases h1 : n < 1 ∨ 7 < n
      · exact absurd ⟨hn.1, hn.2.1, h1⟩ h
      · omega
    have hi := hn.2.1
    unfold cIn at hi
    simp
    omega
theorem cNum_snoc (s : List UInt8) (c : UInt8) : cNum (s ++ [c]) = cNum s * 256 + (c.toNat : Int) := by unfold cNum; rw [List.foldl_append]; rfl
theorem cNum_bd : ∀ (k : Nat) (s : List UInt8), s.length ≤ k → 0 ≤ cNum s ∧ cNum s < 256 ^ k := by
  intro k
  induction k with
  | zero => intro s h; have : s = [] := List.length_eq_zero_iff.1 (by omega); subst this; simp [cNum]
  | succ k ih =>
    intro s h
    rcases List.eq_nil_or_concat s with rfl | ⟨r, c, rfl⟩
    · have := Int.pow_pos (n := 256) (m := k + 1) (by omega)
      simp only [cNum, List.foldl_nil]; omega
    · rw [List.concat_eq_append] at h ⊢
      have := ih r (by simp at h; omega)
      have hc := c.toNat_lt
      rw [cNum_snoc, Int.pow_succ]
      omega

/-! ### Numbers laid -/
def b8 (n : Nat) : UInt8 := UInt8.ofNat n
theorem b8_nat (n : Nat) : (b8 n).toNat = n % 256 := by unfold b8; simp
def cBE : Nat → Nat → List UInt8
  | 0, _ => []
  | k + 1, n => cBE k (n / 256) ++ [b8 n]
def cFits (n k : Int) : Bool := decide (0 ≤ n ∧ 1 ≤ k ∧ k ≤ 7 ∧ n < 256 ^ k.toNat)
def cLay (b : List UInt8) (n k : Int) : List UInt8 := if cFits n k = true then b ++ cBE k.toNat n.toNat else b
theorem cBE_len : ∀ k n, (cBE k n).length = k
  | 0, _ => rfl
  | k + 1, n => by simp [cBE, cBE_len k]
theorem cBE_cons : ∀ k n, cBE (k + 1) n = b8 (n / 256 ^ k) :: cBE k n
  | 0, n => by simp [cBE]
  | k + 1, n => by
    rw [cBE, cBE_cons k (n / 256), cBE]
    rw [Nat.div_div_eq_div_mul, ← Nat.pow_succ']
    rfl
theorem cBE_get : ∀ k n i, i < k → (cBE k n)[i]? = some (b8 (n / 256 ^ (k - 1 - i)))
  | 0, _, _, h => by omega
  | k + 1, n, i, h => by
    rw [cBE_cons]
    cases i with
    | zero => rfl
    | succ i =>
      rw [List.getElem?_cons_succ, cBE_get k n i (by omega)]
      have e : k + 1 - 1 - (i + 1) = k - 1 - i := by omega
      rw [e]
theorem cNum_BE : ∀ k n, cNum (cBE k n) = ((n % 256 ^ k : Nat) : Int)
  | 0, n => by simp [cBE, cNum, Nat.mod_one]
  | k + 1, n => by
    rw [cBE, cNum_snoc, cNum_BE k, b8_nat]
    have : n % 256 ^ (k + 1) = n / 256 % 256 ^ k * 256 + n % 256 := by
      rw [Nat.pow_succ, Nat.mul_comm (256 ^ k) 256, Nat.mod_mul]; omega
    omega
end Go.Proofs.Ytekhpiiediooiaa.C01
