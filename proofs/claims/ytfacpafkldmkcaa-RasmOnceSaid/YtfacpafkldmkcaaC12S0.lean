/-
laws 12, plain: parts of a text, what came of it. No program.
-/
import Derived.Test.YtfacpafkldmkcaaSxu
namespace Go.Proofs.Ytfacpafkldmkcaa.C12
open Sx Go.RowKit

structure Pt where
  a : Int
  d : List UInt8
  deriving DecidableEq
def ptD (x : Pt) : D := .agg [.int .i64 x.a, .str x.d]
structure Rq where
  b : Int
  r : List UInt8
  p : List Pt
  deriving DecidableEq
def rqD (s : Rq) : D := .agg [.int .i64 s.b, .str s.r, .sl (s.p.map ptD)]
def pEnd (x : Pt) : Int := x.a + x.d.length
def rLim (s : Rq) : Int := min (s.b - s.r.length + 4096) 1099511627776
def sumD (l : List Pt) : Nat := (l.map (·.d.length)).foldl (· + ·) 0
def rHeld (s : Rq) : Nat := s.r.length + sumD s.p
def pBad (lim e : Int) (x : Pt) : Bool := decide (x.a ≤ e) || (decide (x.d = []) || (decide (x.a > lim) || decide ((x.d.length : Int) > lim - x.a)))
/-- Whether a part is out of order; behind them: where the last ends. -/
def rBad (lim : Int) : Int → List Pt → Bool
  | _, [] => false
  | e, x :: l => pBad lim e x || rBad lim (pEnd x) l
def rOut (s : Rq) : Bool := decide (s.b < 0 ∨ s.b > 1099511627776 ∨ s.r.length > 4096 ∨ (s.r.length : Int) > s.b)
def rChk (s : Rq) : Int := if rOut s = true then 8 else if rBad (rLim s) s.b s.p = true then 10 else 0
theorem foldl_add (l : List Nat) : ∀ n, l.foldl (· + ·) n = n + l.foldl (· + ·) 0 := by
  induction l with
  | nil => intro n; rfl
  | cons x r ih => intro n; simp only [List.foldl_cons, Nat.zero_add]; rw [ih (n + x), ih x]; omega
theorem sumD_cons (x : Pt) (l : List Pt) : sumD (x :: l) = x.d.length + sumD l := by
  unfold sumD
  rw [List.map_cons, List.foldl_cons, foldl_add]
  omega
theorem sumD_append (l m : List Pt) : sumD (l ++ m) = sumD l + sumD m := by
  induction l with
  | nil => simp [sumD]
  | cons x r ih => rw [List.cons_append, sumD_cons, sumD_cons, ih]; omega
theorem sumD_take {l : List Pt} {j : Nat} {x : Pt} (h : l[j]? = some x) : sumD (l.take (j + 1)) = sumD (l.take j) + x.d.length := by
  rw [take_snoc h, sumD_append, sumD_cons]
  simp [sumD]
theorem sumD_le {l : List Pt} (j : Nat) : sumD (l.take j) ≤ sumD l := by
  have h := sumD_append (l.take j) (l.drop j)
  rw [List.take_append_drop] at h
  omega
end Go.Proofs.Ytfacpafkldmkcaa.C12
