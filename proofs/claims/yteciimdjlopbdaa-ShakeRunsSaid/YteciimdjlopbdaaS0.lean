/-
laws 13, plain: ends of a path, segments. No program.
-/
import Derived.Test.YteciimdjlopbdaaSxu
namespace Go.Proofs.Yteciimdjlopbdaa
open Sx Go.RowKit

/-- An end: stage, path, epoch, its number, the other one's. -/
structure Nd where
  g : Int
  p : Int
  e : Int
  m : Int
  h : Int
def ndD (s : Nd) : D := .agg [.int .u8 s.g, .int .i64 s.p, .int .i64 s.e, .int .u32 s.m, .int .u32 s.h]
/-- A segment; its blocks as they are. -/
structure Sg where
  f : Int
  p : Int
  e : Int
  q : Int
  a : Int
  w : Int
  k : List D
  t : List UInt8
def sgD (x : Sg) : D := .agg [.int .u8 x.f, .int .i64 x.p, .int .i64 x.e, .int .u32 x.q, .int .u32 x.a, .int .i64 x.w, .sl x.k, .str x.t]
def nChk (s : Nd) : Int := if s.p < 0 ∨ 4 ≤ s.p ∨ s.e < 0 ∨ 65535 < s.e then 8 else if 4 < s.g then 12 else if s.g < 2 ∧ s.h ≠ 0 then 4 else 0
def nAt (s : Nd) (g : Int) : Nd := if nChk s = 0 then ⟨g, s.p, s.e, s.m, s.h⟩ else s
def nAsk (s : Nd) : Nd := if s.g = 0 then nAt s 1 else s
def nMet (s : Nd) (g q : Int) : Nd := ⟨g, s.p, s.e, s.m, q⟩
def nNew (p e m : Int) : Nd := ⟨0, p, e, m, 0⟩
def hasB (f k : Int) : Bool := bitsI .and .u8 f k == k
def aAdd (a n : Int) : Int := (a + n) % 4294967296
def aIn (a b n : Int) : Bool := decide ((a - b) % 4294967296 < n)
def aBehind (a n : Int) : Bool := aIn a (aAdd n 1) 2147483648
def gChk (x : Sg) : Int :=
  if 31 < x.f then 12
  else if x.p < 0 ∨ 3 < x.p ∨ x.e < 0 ∨ 65535 < x.e ∨ x.w < 0 ∨ 65535 < x.w then 8
  else if 3 < x.k.length ∨ 48 < x.t.length then 5
  else if ((0 < x.k.length ∨ x.a ≠ 0) ∧ hasB x.f 2 = false) ∨ ((hasB x.f 1 = true ∨ hasB x.f 8 = true) ∧ x.t ≠ []) then 4
  else 0
def nFit (s : Nd) (x : Sg) : Bool := decide (gChk x = 0 ∧ x.p = s.p ∧ x.e = s.e)
theorem tmod_round (x : Int) : x.tmod 4294967296 = if 0 ≤ x then x % 4294967296 else -((-x) % 4294967296) := by
  split
  · next h => exact Int.tmod_eq_emod_of_nonneg h
  · next h =>
    have := Int.neg_tmod (a := -x) (b := 4294967296)
    rw [Int.neg_neg] at this
    rw [this, Int.tmod_eq_emod_of_nonneg (by omega)]
end Go.Proofs.Yteciimdjlopbdaa
