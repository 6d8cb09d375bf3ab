/-
laws 06: the program's Meet.
-/
import Derived.Test.YtfllhedkgeljaaaC06S5
set_option linter.unusedSimpArgs false
set_option linter.unusedVariables false
namespace Go.Proofs.Ytfllhedkgeljaaa.C06
open Sx Go.RowKit

def both (x y : Iv) : Iv := (max x.1 y.1, min x.2 y.2)
def stM (x : Iv) (m : List Iv) (y : Iv) : List Iv := pPut m (both x y)
def pMeet (a b : List Iv) : List Iv := a.foldl (fun m x => b.foldl (stM x) m) []
theorem stM_len (x : Iv) : ∀ (b m : List Iv), (b.foldl (stM x) m).length ≤ m.length + b.length
  | [], m => by simp
  | y :: b, m => by
    have := stM_len x b (stM x m y)
    have : (stM x m y).length ≤ m.length + 1 := pPut_len m (both x y)
    rw [List.foldl_cons, List.length_cons]
    omega
theorem pMeet_len (b : List Iv) : ∀ (a m : List Iv), (a.foldl (fun m x => b.foldl (stM x) m) m).length ≤ m.length + a.length * b.length
  | [], m => by simp
  | x :: a, m => by
    have := pMeet_len b a (b.foldl (stM x) m)
    have := stM_len x b m
    rw [List.foldl_cons, List.length_cons, Nat.succ_mul]
    omega
def I17 (a b m : List Iv) (j : Nat) : St := ⟨[(1, .d (.sl (b.map ivD))), (5, .own 0 2), (18, .d (.sl (a.map ivD))), (19, .d (.int .i64 a.length)), (20, .d (.int .i64 j))], [(0, .row 2 (m.map ivD))]⟩
def J17 (a b : List Iv) (x : Iv) (m : List Iv) (j i : Nat) : St := ⟨[(1, .d (.sl (b.map ivD))), (5, .own 0 2), (7, .ptr 1 0), (18, .d (.sl (a.map ivD))), (19, .d (.int .i64 a.length)), (20, .d (.int .i64 j)), (24, .d (.sl (b.map ivD))), (25, .d (.int .i64 b.length)), (26, .d (.int .i64 i))], [(0, .row 2 (m.map ivD)), (1, ivB x)]⟩
def rMeet (a b : List Iv) : List Iv := if (!(iChk a == 0) || !(iChk b == 0)) = true then [] else pMeet a b
end Go.Proofs.Ytfllhedkgeljaaa.C06
