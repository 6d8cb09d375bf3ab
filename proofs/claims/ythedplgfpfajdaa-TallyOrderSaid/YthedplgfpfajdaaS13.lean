/-
laws 36, plain: what counts come to, whatever the order. No program.
-/
import Derived.Test.YthedplgfpfajdaaS12
set_option linter.unusedSimpArgs false
set_option linter.unusedVariables false
namespace Go.Proofs.Ythedplgfpfajdaa
open Sx Go.RowKit

theorem addC_eq {x n : Int} : addC x n = min (x + n) great := by
  unfold addC
  split <;> omega
theorem addC_add {x a b : Int} (hx : x ≤ great) (ha : 0 ≤ a) (hb : 0 ≤ b) : addC (addC x a) b = addC x (a + b) := by
  rw [addC_eq, addC_eq, addC_eq]
  omega
theorem addC_zero {x : Int} (hx : x ≤ great) : addC x 0 = x := by rw [addC_eq]; omega
def dl (k : Nat) (n : Int) (i : Nat) : Int := if i = k then n else 0
theorem dl_nn {k : Nat} {n : Int} (h : 0 ≤ n) (i : Nat) : 0 ≤ dl k n i := by unfold dl; split <;> omega
theorem inc_dl {c : Nat → Int} (hb : Bd c) (k : Nat) (n : Int) (i : Nat) : inc c k n i = addC (c i) (dl k n i) := by
  unfold inc upC dl
  by_cases h : i = k
  · subst h; rw [if_pos rfl, if_pos rfl]
  · rw [if_neg h, if_neg h, addC_zero (hb i).2]
def midA (s : Stp) (a : Ans) (i : Nat) : Int :=
  if a.e = 0 then (if s.k = 1 then dl 2 (max a.n 0) i else if s.k = 3 then dl 3 a.t.length i else if s.k = 10 then dl 4 (max a.n 0) i else 0) else dl 1 1 i
theorem midA_nn (s : Stp) (a : Ans) (i : Nat) : 0 ≤ midA s a i := by
  unfold midA
  split
  · split
    · exact dl_nn (by omega) i
    · split
      · exact dl_nn (by omega) i
      · split
        · exact dl_nn (by omega) i
        · omega
  · exact dl_nn (by omega) i
theorem midC_dl {c : Nat → Int} (hb : Bd c) (s : Stp) (a : Ans) (i : Nat) : midC c s a i = addC (c i) (midA s a i) := by
  unfold midC midA
  split
  · split
    · exact inc_dl hb _ _ i
    · split
      · exact inc_dl hb _ _ i
      · split
        · exact inc_dl hb _ _ i
        · rw [addC_zero (hb i).2]
  · exact inc_dl hb _ _ i
def evA (e : Evt) (i : Nat) : Int := if 1 ≤ e.k ∧ e.k ≤ 8 then dl (4 + e.k).toNat 1 i else 0
theorem evA_nn (e : Evt) (i : Nat) : 0 ≤ evA e i := by unfold evA; split; exact dl_nn (by omega) i; omega
theorem evC_dl {c : Nat → Int} (hb : Bd c) (e : Evt) (i : Nat) : evC c e i = addC (c i) (evA e i) := by
  unfold evC evA
  split
  · exact inc_dl hb _ _ i
  · rw [addC_zero (hb i).2]
def evS : List Evt → Nat → Int
  | [], _ => 0
  | e :: l, i => evA e i + evS l i
theorem evS_nn : ∀ (l : List Evt) (i : Nat), 0 ≤ evS l i
  | [], _ => Int.le_refl _
  | e :: l, i => Int.add_nonneg (evA_nn e i) (evS_nn l i)
theorem evF_dl : ∀ (l : List Evt) {c : Nat → Int}, Bd c → ∀ i, l.foldl evC c i = addC (c i) (evS l i)
  | [], c, hb, i => (addC_zero (hb i).2).symm
  | e :: l, c, hb, i => by
    show l.foldl evC (evC c e) i = _
    rw [evF_dl l (evC_bd hb e) i, evC_dl hb, addC_add (hb i).2 (evA_nn e i) (evS_nn l i)]
    rfl
def amt (x : Act) (i : Nat) : Int :=
  if x.nm = [] then dl 0 1 i + midA x.s x.a i + evS x.a.v i
  else if x.v < 0 then 0 else match plc x.nm with | some k => dl k x.v i | none => 0
theorem amt_nn (x : Act) (i : Nat) : 0 ≤ amt x i := by
  unfold amt
  split
  · have := dl_nn (k := 0) (n := 1) (by omega) i
    have := midA_nn x.s x.a i
    have := evS_nn x.a.v i
    omega
  · split
    · omega
    · split
      · exact dl_nn (by omega) i
      · omega
theorem actC_dl {c : Nat → Int} (hb : Bd c) (x : Act) (i : Nat) : actC c x i = addC (c i) (amt x i) := by
  unfold actC amt
  by_cases h : x.nm = []
  · rw [if_pos h, if_pos h]
    unfold noteC
    have b1 := inc_bd hb 0 (n := 1) (by omega)
    rw [evF_dl _ (midC_bd b1 _ _) i, midC_dl b1, inc_dl hb, addC_add (hb i).2 (dl_nn (by omega) i) (midA_nn _ _ i), addC_add (hb i).2 (Int.add_nonneg (dl_nn (by omega) i) (midA_nn _ _ i)) (evS_nn _ i)]
  · rw [if_neg h, if_neg h]
    unfold addQc
    by_cases hv : x.v < 0
    · rw [if_pos hv, if_pos hv, addC_zero (hb i).2]
    · rw [if_neg hv, if_neg hv]
      cases plc x.nm with
      | none => exact (addC_zero (hb i).2).symm
      | some k => exact inc_dl hb k x.v i
def tot : List Act → Nat → Int
  | [], _ => 0
  | x :: l, i => amt x i + tot l i
theorem tot_nn : ∀ (l : List Act) (i : Nat), 0 ≤ tot l i
  | [], _ => Int.le_refl _
  | x :: l, i => Int.add_nonneg (amt_nn x i) (tot_nn l i)
theorem tot_app : ∀ (l o : List Act) (i : Nat), tot (l ++ o) i = tot l i + tot o i
  | [], o, i => by show tot o i = 0 + _; omega
  | x :: l, o, i => by show amt x i + tot (l ++ o) i = amt x i + tot l i + _; rw [tot_app l o i]; omega
theorem tot_rev : ∀ (l : List Act) (i : Nat), tot l.reverse i = tot l i
  | [], i => rfl
  | x :: l, i => by
    rw [List.reverse_cons, tot_app, tot_rev l i]
    show tot l i + (amt x i + 0) = amt x i + tot l i
    omega
theorem actF_dl : ∀ (l : List Act) {c : Nat → Int}, Bd c → ∀ i, l.foldl actC c i = addC (c i) (tot l i)
  | [], c, hb, i => (addC_zero (hb i).2).symm
  | x :: l, c, hb, i => by
    show l.foldl actC (actC c x) i = _
    rw [actF_dl l (actC_bd hb x) i, actC_dl hb, addC_add (hb i).2 (amt_nn x i) (tot_nn l i)]
    rfl
theorem jc_dl {c d : Nat → Int} (hd : Bd d) : ∀ (j i : Nat), jc c d j i = if i < j then addC (c i) (d i) else c i
  | 0, i => by rw [if_neg (by omega)]; rfl
  | j + 1, i => by
    unfold jc upC
    by_cases h : i = j
    · subst h
      rw [if_pos rfl, if_pos (by omega), jc_dl hd i i, if_neg (by omega)]
    · rw [if_neg h, jc_dl hd j i]
      by_cases g : i < j
      · rw [if_pos g, if_pos (by omega)]
      · rw [if_neg g, if_neg (by omega)]
theorem sum_eq {a b : Int} (ha : 0 ≤ a) (hb : 0 ≤ b) : addC (addC 0 a) (addC 0 b) = addC 0 (a + b) := by
  rw [addC_eq, addC_eq, addC_eq, addC_eq]
  have : (0 : Int) ≤ great := by decide
  omega
/-- All five: from the front, from behind, both at once, and joined in either order. -/
theorem order_ok (l o : List Act) {i : Nat} (hi : i < 13) :
    l.reverse.foldl actC c0 i = l.foldl actC c0 i ∧ jc (l.foldl actC c0) (o.foldl actC c0) 13 i = (l ++ o).foldl actC c0 i ∧ jc (o.foldl actC c0) (l.foldl actC c0) 13 i = (l ++ o).foldl actC c0 i := by
  have e0 : c0 i = 0 := rfl
  rw [jc_dl (actF_bd o c0_bd), jc_dl (actF_bd l c0_bd), if_pos hi, if_pos hi, actF_dl _ c0_bd, actF_dl _ c0_bd, actF_dl _ c0_bd, actF_dl _ c0_bd, tot_rev, tot_app, e0, sum_eq (tot_nn l i) (tot_nn o i), sum_eq (tot_nn o i) (tot_nn l i), Int.add_comm (tot o i)]
  exact ⟨rfl, rfl, rfl⟩
end Go.Proofs.Ythedplgfpfajdaa
