/-
laws 31, plain: packets under way, and what happens to them. No program.
-/
import Derived.Test.YtoagghehabceaaaSxu
namespace Go.Proofs.Ytoagghehabceaaa
open Sx Go.RowKit

structure Pk where
  p : Int
  t : Int
  d : List UInt8
  deriving DecidableEq
def pkD (x : Pk) : D := .agg [.int .i64 x.p, .int .i64 x.t, .str x.d]
structure Ls where
  l : List Pk
  s : Int
  c : Int
  deriving DecidableEq
def lsD (x : Ls) : D := .agg [.sl (x.l.map pkD), .int .i64 x.s, .int .i64 x.c]

def lWrong (x : Pk) : Bool := decide (x.p < 0 ∨ 3 < x.p ∨ x.t < 0 ∨ 1 < x.t)
def lIn (n m : Int) : Bool := decide (0 ≤ n ∧ n ≤ m)
def lOut (s c : Int) : Bool := decide (s < 0 ∨ 1099511627776 < s ∨ c < 0 ∨ 1099511627776 < c)
def lChk (x : Ls) : Int := if 200 < x.l.length then 5 else if x.l.any lWrong = true ∨ lOut x.s x.c = true then 8 else 0
def lThere (x : Ls) (n : Int) : Bool := decide (lChk x = 0 ∧ 0 ≤ n ∧ n < x.l.length)
def lWith (x : Ls) (k : Int) (l : List Pk) : Ls := ⟨l, x.s, min (x.c + k) 1099511627776⟩
def lSendB (x : Ls) (p : Pk) : Bool := decide (lChk x = 0 ∧ lWrong p = false ∧ x.l.length < 200 ∧ x.s < 1099511627776)
def lSend (x : Ls) (p : Pk) : Ls := if lSendB x p then ⟨x.l ++ [p], x.s + 1, x.c⟩ else x
def cutAt (l : List Pk) (n : Nat) : List Pk := l.take n ++ l.drop (n + 1)
def lDrop (x : Ls) (n : Int) : Ls := if lThere x n then ⟨cutAt x.l n.toNat, x.s, x.c⟩ else x
def pk0 : Pk := ⟨0, 0, []⟩
def lTakeP (x : Ls) (n : Int) : Pk := if lThere x n then (x.l[n.toNat]?).getD pk0 else pk0
def lTake (x : Ls) (n : Int) (k : Bool) : Ls := if lThere x n then ⟨if k then x.l else cutAt x.l n.toNat, x.s, min (x.c + 1) 1099511627776⟩ else x
def flipB (d : List UInt8) (a b : Int) : List UInt8 := d.set (a % d.length).toNat ((d[(a % d.length).toNat]?).getD 0 ^^^ UInt8.ofNat (b % 256).toNat)
def flipP (x : Pk) (a b : Int) : Pk := ⟨x.p, x.t, flipB x.d a b⟩
def lFlipB (x : Ls) (n a b : Int) : Bool := lThere x n && decide (0 ≤ a ∧ 0 ≤ b ∧ (lTakeP x n).d ≠ [])
def lFlip (x : Ls) (n a b : Int) : Ls := if lFlipB x n a b then ⟨x.l.set n.toNat (flipP (lTakeP x n) a b), x.s, x.c⟩ else x
def onPath (k : Int) (x : Pk) : Bool := x.p == k
def onWay (k t : Int) (x : Pk) : Bool := x.p == k && x.t == t
def notB (f : Pk → Bool) (x : Pk) : Bool := !f x
def lCut (x : Ls) (k : Int) : Ls := if lChk x = 0 then ⟨x.l.filter (notB (onPath k)), x.s, x.c⟩ else x
def lCutN (x : Ls) (k : Int) : Int := if lChk x = 0 then ((x.l.filter (onPath k)).length : Int) else 0
def lAll (x : Ls) (k t : Int) : Ls := if lChk x = 0 then ⟨x.l.filter (notB (onWay k t)), x.s, min (x.c + (x.l.filter (onWay k t)).length) 1099511627776⟩ else x
def lAllP (x : Ls) (k t : Int) : List Pk := if lChk x = 0 then x.l.filter (onWay k t) else []
theorem chk_zero {x : Ls} : lChk x = 0 ↔ x.l.length ≤ 200 ∧ (∀ p ∈ x.l, lWrong p = false) ∧ 0 ≤ x.s ∧ x.s ≤ 1099511627776 ∧ 0 ≤ x.c ∧ x.c ≤ 1099511627776 := by
  have h1 : x.l.any lWrong = true ↔ ∃ p ∈ x.l, lWrong p = true := List.any_eq_true
  have h2 : lOut x.s x.c = true ↔ (x.s < 0 ∨ 1099511627776 < x.s ∨ x.c < 0 ∨ 1099511627776 < x.c) := by unfold lOut; exact decide_eq_true_iff
  unfold lChk
  constructor
  · intro h
    split at h
    · omega
    split at h
    · omega
    next h3 h4 =>
    rw [h1, h2] at h4
    refine ⟨by omega, fun p hp => ?_, by omega, by omega, by omega, by omega⟩
    cases hw : lWrong p
    · rfl
    · exact absurd (.inl ⟨p, hp, hw⟩) h4
  · intro ⟨a, b, c, d, e, f⟩
    rw [if_neg (by omega), if_neg]
    rintro (h | h)
    · obtain ⟨p, hp, hw⟩ := h1.1 h
      rw [b p hp] at hw; cases hw
    · have := h2.1 h; omega
theorem filter_snoc {l : List Pk} {f : Pk → Bool} {j : Nat} {x : Pk} (h : l[j]? = some x) : (l.take (j + 1)).filter f = (l.take j).filter f ++ (if f x then [x] else []) := by
  rw [take_snoc h, List.filter_append]
  congr 1
  cases hf : f x <;> simp [hf]
theorem pkD_cells (l : List Pk) : ∀ e ∈ l.map pkD, e.cells.length = 3 := by
  intro e he
  obtain ⟨x, -, rfl⟩ := List.mem_map.1 he
  rfl
theorem pkD_one (l : List Pk) : ∀ e ∈ l.map pkD, ∀ d ∈ e.cells, d.one = true := by
  intro e he
  obtain ⟨x, -, rfl⟩ := List.mem_map.1 he
  intro d hd
  simp [pkD, D.cells] at hd
  rcases hd with rfl | rfl | rfl <;> rfl
end Go.Proofs.Ytoagghehabceaaa
