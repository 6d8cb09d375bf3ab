/-
laws 06: the document's Same, Count, Holds, First; Own, Back.
-/
import Derived.Test.YtfllhedkgeljaaaC06S11
set_option linter.unusedSimpArgs false
set_option linter.unusedVariables false
namespace Go.Proofs.Ytfllhedkgeljaaa.C06
open Sx Go.RowKit

/-! ### Same -/
def I9 (a b : List Iv) (j : Nat) : St := ⟨[(0, .d (.sl (a.map ivD))), (1, .d (.sl (b.map ivD))), (5, .d (.int .i64 j))], []⟩
def O9 : St := ⟨[(4, .d (.bool false))], []⟩
set_option maxRecDepth 100000 in
set_option maxHeartbeats 1000000 in
theorem r9 (a b : List Iv) (hl : a.length < 1000000) (j : Nat) (x : Iv) (hx : a[j]? = some x) (hy : b[j]? = some x) : Runs Try.prog 0 (loopN Try.prog 43 0) (St.as (I9 a b j) 26) (.normal) (St.as (I9 a b (j+1)) 26) := by
  refine round_wp (p := condP (decide ((↑j : Int) < (↑(List.map ivD a).length : Int))) (((0 : Int) ≤ (↑j : Int)) ∧ (((List.map ivD a)[(↑j : Int).toNat]? = some (D.agg [D.int .i64 x.fst, D.int .i64 x.snd])) ∧ (((0 : Int) ≤ (↑j : Int)) ∧ (((List.map ivD b)[(↑j : Int).toNat]? = some (D.agg [D.int .i64 x.fst, D.int .i64 x.snd])) ∧ (((D.bool !(x.fst == x.fst && (x.snd == x.snd && true))) = D.bool false) ∧ ((AV.d (.sl (List.map ivD a)) = AV.d (.sl (List.map ivD a))) ∧ ((AV.d (.sl (List.map ivD b)) = AV.d (.sl (List.map ivD b))) ∧ ((AV.d (.int .i64 (IntKind.i64.wrap ((↑j : Int) + (1 : Int)))) = AV.d (.int .i64 (↑(j + 1) : Int))) ∧ (True))))))))) (False)) (h := {els := [(17, .el (ivD x)), (21, .el (ivD x))], H := [(6, [(8, .val (.bool false))])]}) (subs := []) (ws := []) (ρ := []) (by kernel_rfl) ?_
  have hj := get_lt hx
  have hj2 := get_lt hy
  have hi := inc_i64 (j := j) (by omega)
  simp only [hi, List.length_map]
  refine condP_t (by rw [decide_eq_true_eq]; omega) ?_
  repeat' (with_reducible first | exact True.intro | apply And.intro | (first | apply zA | apply zB | apply zC | apply zD | apply zE | apply zF | apply zG) <;> intro)
  all_goals first | exact el_map hx rfl | exact el_map hy rfl | rfl | omega | (refine congrArg D.bool ?_; simp; done) | (exfalso; simp_all; done) | (refine congrArg D.bool ?_; rw [ivD_ne hne]; rfl) | (exfalso; have hq := ivD_ne hne; simp_all; done) | skip

set_option maxRecDepth 100000 in
set_option maxHeartbeats 1000000 in
theorem e9 (a b : List Iv) (hl : a.length < 1000000) (j : Nat) (x y : Iv) (hx : a[j]? = some x) (hy : b[j]? = some y) (hne : x ≠ y) : Runs Try.prog 0 (loopN Try.prog 43 0) (St.as (I9 a b j) 26) (.ret) (St.as (O9) 26) := by
  refine round_wp (p := condP (decide ((↑j : Int) < (↑(List.map ivD a).length : Int))) (((0 : Int) ≤ (↑j : Int)) ∧ (((List.map ivD a)[(↑j : Int).toNat]? = some (D.agg [D.int .i64 x.fst, D.int .i64 x.snd])) ∧ (((0 : Int) ≤ (↑j : Int)) ∧ (((List.map ivD b)[(↑j : Int).toNat]? = some (D.agg [D.int .i64 y.fst, D.int .i64 y.snd])) ∧ (((D.bool !(x.fst == y.fst && (x.snd == y.snd && true))) = D.bool true) ∧ ((AV.d (.bool false) = AV.d (.bool false)) ∧ (True))))))) (False)) (h := {els := [(17, .el (ivD x)), (21, .el (ivD y))], H := [(6, [(8, .val (.bool true))])]}) (subs := []) (ws := []) (ρ := []) (by kernel_rfl) ?_
  have hj := get_lt hx
  have hj2 := get_lt hy
  have hi := inc_i64 (j := j) (by omega)
  simp only [hi, List.length_map]
  refine condP_t (by rw [decide_eq_true_eq]; omega) ?_
  repeat' (with_reducible first | exact True.intro | apply And.intro | (first | apply zA | apply zB | apply zC | apply zD | apply zE | apply zF | apply zG) <;> intro)
  all_goals first | exact el_map hx rfl | exact el_map hy rfl | rfl | omega | (refine congrArg D.bool ?_; simp; done) | (exfalso; simp_all; done) | (refine congrArg D.bool ?_; rw [ivD_ne hne]; rfl) | (exfalso; have hq := ivD_ne hne; simp_all; done) | skip

set_option maxRecDepth 100000 in
set_option maxHeartbeats 1000000 in
theorem q9 (a b : List Iv) : Runs Try.prog 0 (loopN Try.prog 43 0) (St.as (I9 a b a.length) 26) (.exit 0) (St.as (I9 a b a.length) 26) := by
  refine round_wp (p := condP (decide ((↑a.length : Int) < (↑(List.map ivD a).length : Int))) (False) ((AV.d (.sl (List.map ivD a)) = AV.d (.sl (List.map ivD a))) ∧ ((AV.d (.sl (List.map ivD b)) = AV.d (.sl (List.map ivD b))) ∧ ((AV.d (.int .i64 (↑a.length : Int)) = AV.d (.int .i64 (↑a.length : Int))) ∧ (True))))) (h := {}) (subs := []) (ws := []) (ρ := []) (by kernel_rfl) ?_
  repeat' (with_reducible first | exact True.intro | apply And.intro | (first | apply zA | apply zB | apply zC | apply zD | apply zE | apply zF | apply zG) <;> intro)
  all_goals (try simp only [List.length_map, AV.d.injEq, D.int.injEq, D.bool.injEq, D.str.injEq, D.sl.injEq, true_and, and_true, decide_eq_true_eq, decide_eq_false_iff_not, decide_eq_decide])
  all_goals (try simp only [List.length_map] at *)
  all_goals first | rfl | omega

set_option maxRecDepth 100000 in
set_option maxHeartbeats 1000000 in
theorem same9l (a b : List Iv) (h : a.length ≠ b.length) (hL : True) : FnOK Try.prog 43 ([.d (.sl (a.map ivD)), .d (.sl (b.map ivD))]) ([]) (.d (.bool false)) ([]) := by
  refine fnOK_wp (p := (D.bool ((↑(List.map ivD a).length : Int) != (↑(List.map ivD b).length : Int)) = D.bool true) ∧ ((AV.d (.bool false) = AV.d (.bool false)) ∧ (True))) (h := {H := [(1, [(4, .val (.bool true))])]}) (subs := []) (ws := []) (ρ := []) (by kernel_rfl) ?_
  simp only [List.length_map]
  repeat' (with_reducible first | exact True.intro | apply And.intro | (first | apply zA | apply zB | apply zC | apply zD | apply zE | apply zF | apply zG) <;> intro)
  all_goals first | exact hL | rfl | exact dno (by omega) | (exfalso; omega) | (refine congrArg D.bool ?_; simp; omega) | (exfalso; simp_all; done) | skip

set_option maxRecDepth 100000 in
set_option maxHeartbeats 1000000 in
theorem same9y (a b : List Iv) (h : a.length = b.length) (hL : Loops Try.prog 0 (loopN Try.prog 43 0) ((I9 a b 0).as 26) (.exit 0) ((I9 a b a.length).as 26)) : FnOK Try.prog 43 ([.d (.sl (a.map ivD)), .d (.sl (b.map ivD))]) ([]) (.d (.bool true)) ([]) := by
  refine fnOK_wp (p := (D.bool ((↑(List.map ivD a).length : Int) != (↑(List.map ivD b).length : Int)) = D.bool false) ∧ ((AV.d (.sl (List.map ivD a)) = AV.d (.sl (List.map ivD a))) ∧ ((AV.d (.sl (List.map ivD b)) = AV.d (.sl (List.map ivD b))) ∧ ((AV.d (.int .i64 (0 : Int)) = AV.d (.int .i64 (0 : Int))) ∧ ((LoopsS Try.prog 0 (loopN Try.prog 43 0) (I9 a b 0) (Exit.exit 0) (I9 a b a.length) 26) ∧ ((AV.d (.bool true) = AV.d (.bool true)) ∧ (True))))))) (h := {H := [(1, [(4, .val (.bool false))])]}) (subs := [⟨[], [], I9 a b 0, .exit 0, I9 a b a.length⟩]) (ws := []) (ρ := []) (by kernel_rfl) ?_
  simp only [List.length_map]
  repeat' (with_reducible first | exact True.intro | apply And.intro | (first | apply zA | apply zB | apply zC | apply zD | apply zE | apply zF | apply zG) <;> intro)
  all_goals first | exact hL | rfl | exact dno (by omega) | (exfalso; omega) | (refine congrArg D.bool ?_; simp; omega) | (exfalso; simp_all; done) | skip

set_option maxRecDepth 100000 in
set_option maxHeartbeats 1000000 in
theorem same9n (a b : List Iv) (h : a.length = b.length) (hL : Loops Try.prog 0 (loopN Try.prog 43 0) ((I9 a b 0).as 26) .ret (O9.as 26)) : FnOK Try.prog 43 ([.d (.sl (a.map ivD)), .d (.sl (b.map ivD))]) ([]) (.d (.bool false)) ([]) := by
  refine fnOK_wp (p := (D.bool ((↑(List.map ivD a).length : Int) != (↑(List.map ivD b).length : Int)) = D.bool false) ∧ ((AV.d (.sl (List.map ivD a)) = AV.d (.sl (List.map ivD a))) ∧ ((AV.d (.sl (List.map ivD b)) = AV.d (.sl (List.map ivD b))) ∧ ((AV.d (.int .i64 (0 : Int)) = AV.d (.int .i64 (0 : Int))) ∧ ((LoopsS Try.prog 0 (loopN Try.prog 43 0) (I9 a b 0) Exit.ret O9 26) ∧ ((AV.d (.bool false) = AV.d (.bool false)) ∧ (True))))))) (h := {H := [(1, [(4, .val (.bool false))])]}) (subs := [⟨[], [], I9 a b 0, .ret, O9⟩]) (ws := []) (ρ := []) (by kernel_rfl) ?_
  simp only [List.length_map]
  repeat' (with_reducible first | exact True.intro | apply And.intro | (first | apply zA | apply zB | apply zC | apply zD | apply zE | apply zF | apply zG) <;> intro)
  all_goals first | exact hL | rfl | exact dno (by omega) | (exfalso; omega) | (refine congrArg D.bool ?_; simp; omega) | (exfalso; simp_all; done) | skip

theorem same9 (a b : List Iv) (hl : a.length < 1000000) : FnOK Try.prog 43 [.d (.sl (a.map ivD)), .d (.sl (b.map ivD))] [] (.d (.bool (decide (a = b)))) [] := by
  by_cases h : a.length = b.length
  · rcases diff_or a b h with e | ⟨m, x, y, h1, h2, h3, h4⟩
    · rw [decide_eq_true e]
      refine same9y a b h (loops_n (I := fun j => (I9 a b j).as 26) (by simp) a.length 0 (by omega) (fun j _ hj => r9 a b hl j a[j] (get_of hj) (by rw [← e]; exact get_of hj)) (q9 a b))
    · have hm := get_lt h1
      rw [decide_eq_false (by rintro rfl; rw [h1] at h2; cases h2; exact h3 rfl)]
      exact same9n a b h (loops_n (I := fun j => (I9 a b j).as 26) (by simp) m 0 (by omega) (fun j _ hj => r9 a b hl j (a[j]'(by omega)) (get_of _) (h4 j _ hj (get_of _))) (e9 a b hl m x y h1 h2 h3))
  · rw [decide_eq_false (by rintro rfl; exact h rfl)]; exact same9l a b h trivial
/-! ### Count -/
def I22 (s : List Iv) (n : Int) (j : Nat) : St := ⟨[(0, .d (.sl (s.map ivD))), (3, .d (.int .i64 n)), (4, .d (.int .i64 j))], []⟩
set_option maxRecDepth 100000 in
set_option maxHeartbeats 1000000 in
theorem r22 (s : List Iv) (hl : s.length < 1000000) (n : Int) (j : Nat) (y : Iv) (hn : s[j]? = some y) (k1 : FnOK Try.prog 59 [.d (.sl (s.map ivD))] [] (.d (.int .i64 0)) []) (h1 : IntKind.i64.wrap (y.2 - y.1) = y.2 - y.1) (h2 : IntKind.i64.wrap (n + (y.2 - y.1)) = n + (y.2 - y.1)) : Runs Try.prog 0 (loopN Try.prog 53 0) (St.as (I22 s n j) 30) (.normal) (St.as (I22 s (n + (y.2 - y.1)) (j+1)) 30) := by
  refine round_wp (p := (D.bool (decide ((↑j : Int) < (↑(List.map ivD s).length : Int))) = D.bool true) ∧ ((D.bool true = D.bool true) ∧ ((FnOK Try.prog 59 [AV.d (.sl (List.map ivD s))] [] (AV.d (.int .i64 (0 : Int))) []) ∧ (((0 : Int) ≤ (↑j : Int)) ∧ (((List.map ivD s)[(↑j : Int).toNat]? = some (D.agg [D.int .i64 y.fst, D.int .i64 y.snd])) ∧ (((0 : Int) ≤ (↑j : Int)) ∧ (((List.map ivD s)[(↑j : Int).toNat]? = some (D.agg [D.int .i64 y.fst, D.int .i64 y.snd])) ∧ ((AV.d (.sl (List.map ivD s)) = AV.d (.sl (List.map ivD s))) ∧ ((AV.d (.int .i64 (IntKind.i64.wrap (n + IntKind.i64.wrap (y.snd - y.fst)))) = AV.d (.int .i64 (n + (y.snd - y.fst)))) ∧ ((AV.d (.int .i64 (IntKind.i64.wrap ((↑j : Int) + (1 : Int)))) = AV.d (.int .i64 (↑(j + 1) : Int))) ∧ (True))))))))))) (h := {els := [(17, .el (ivD y)), (22, .el (ivD y))], H := [(3, [(3, .val (.bool true))])], G := [(59, gAns (.d (.int .i64 0)))]}) (subs := []) (ws := []) (ρ := []) (by kernel_rfl) ?_
  have hj := get_lt hn
  have hi := inc_i64 (j := j) (by omega)
  simp only [hi, h1, h2, List.length_map]
  repeat' (with_reducible first | exact True.intro | apply And.intro | (first | apply zA | apply zB | apply zC | apply zD | apply zE | apply zF | apply zG) <;> intro)
  all_goals first | exact k1 | exact el_map hn rfl | rfl | omega | exact dyes (by omega) | skip

set_option maxRecDepth 100000 in
set_option maxHeartbeats 1000000 in
theorem q22 (s : List Iv) (n : Int) : Runs Try.prog 0 (loopN Try.prog 53 0) (St.as (I22 s n s.length) 30) (.exit 0) (St.as (I22 s n s.length) 30) := by
  refine round_wp (p := (D.bool (decide ((↑s.length : Int) < (↑(List.map ivD s).length : Int))) = D.bool false) ∧ ((D.bool false = D.bool false) ∧ ((AV.d (.sl (List.map ivD s)) = AV.d (.sl (List.map ivD s))) ∧ ((AV.d (.int .i64 n) = AV.d (.int .i64 n)) ∧ ((AV.d (.int .i64 (↑s.length : Int)) = AV.d (.int .i64 (↑s.length : Int))) ∧ (True)))))) (h := {H := [(3, [(3, .val (.bool false))])]}) (subs := []) (ws := []) (ρ := []) (by kernel_rfl) ?_
  simp only [List.length_map]
  repeat' (with_reducible first | exact True.intro | apply And.intro | (first | apply zA | apply zB | apply zC | apply zD | apply zE | apply zF | apply zG) <;> intro)
  all_goals first | rfl | omega | exact dno (by omega)

set_option maxRecDepth 100000 in
set_option maxHeartbeats 1000000 in
theorem q22n (s : List Iv) (x : Int) (hx : x ≠ 0) (k1 : FnOK Try.prog 59 [.d (.sl (s.map ivD))] [] (.d (.int .i64 x)) []) (hs : 0 < s.length) : Runs Try.prog 0 (loopN Try.prog 53 0) (St.as (I22 s 0 0) 30) (.exit 0) (St.as (I22 s 0 0) 30) := by
  refine round_wp (p := (D.bool (decide ((0 : Int) < (↑(List.map ivD s).length : Int))) = D.bool true) ∧ ((D.bool true = D.bool true) ∧ ((FnOK Try.prog 59 [AV.d (.sl (List.map ivD s))] [] (AV.d (.int .i64 x)) []) ∧ ((D.bool (x == (0 : Int)) = D.bool false) ∧ ((AV.d (.sl (List.map ivD s)) = AV.d (.sl (List.map ivD s))) ∧ ((AV.d (.int .i64 (0 : Int)) = AV.d (.int .i64 (0 : Int))) ∧ ((AV.d (.int .i64 (0 : Int)) = AV.d (.int .i64 (0 : Int))) ∧ (True)))))))) (h := {H := [(3, [(3, .val (.bool true)), (7, .val (.bool false))])], G := [(59, gAns (.d (.int .i64 x)))]}) (subs := []) (ws := []) (ρ := []) (by kernel_rfl) ?_
  simp only [List.length_map]
  repeat' (with_reducible first | exact True.intro | apply And.intro | (first | apply zA | apply zB | apply zC | apply zD | apply zE | apply zF | apply zG) <;> intro)
  all_goals first | exact k1 | rfl | omega | exact dyes (by omega) | (refine congrArg D.bool ?_; simpa using hx) | skip

set_option maxRecDepth 100000 in
set_option maxHeartbeats 1000000 in
theorem cnt22' (s : List Iv) (n : Int) (j : Nat) (hL : Loops Try.prog 0 (loopN Try.prog 53 0) ((I22 s 0 0).as 30) (.exit 0) ((I22 s n j).as 30)) : FnOK Try.prog 53 ([.d (.sl (s.map ivD))]) ([]) (.d (.int .i64 n)) ([]) := by
  refine fnOK_wp (p := (AV.d (.sl (List.map ivD s)) = AV.d (.sl (List.map ivD s))) ∧ ((AV.d (.int .i64 (0 : Int)) = AV.d (.int .i64 (0 : Int))) ∧ ((AV.d (.int .i64 (0 : Int)) = AV.d (.int .i64 (0 : Int))) ∧ ((LoopsS Try.prog 0 (loopN Try.prog 53 0) (I22 s (0 : Int) 0) (Exit.exit 0) (I22 s n j) 30) ∧ ((AV.d (.int .i64 n) = AV.d (.int .i64 n)) ∧ (True)))))) (h := {}) (subs := [⟨[], [], I22 s 0 0, .exit 0, I22 s n j⟩]) (ws := []) (ρ := []) (by kernel_rfl) ?_
  repeat' (with_reducible first | exact True.intro | apply And.intro | (first | apply zA | apply zB | apply zC | apply zD | apply zE | apply zF | apply zG) <;> intro)
  all_goals first | exact hL | rfl | skip

theorem count22 (s : List Iv) (hl : s.length < 1000000) : FnOK Try.prog 53 [.d (.sl (s.map ivD))] [] (.d (.int .i64 (rCount s))) [] := by
  have k1 := chk20 s hl
  unfold rCount
  by_cases h : iChk s = 0
  · rw [if_pos h]
    rw [h] at k1
    have ok := iChk_iff.1 h
    have hb : ∀ j, 0 ≤ cnt (s.take j) ∧ cnt (s.take j) ≤ 4611686018427387903 - (-1) := fun j => cnt_bd (srt_take j ok.srt) (fun x hx => ok.up x (List.mem_of_mem_take hx)) (by omega)
    have hL := loops_n (P := Try.prog) (k := 0) (c := loopN Try.prog 53 0) (e := .exit 0) (I := fun j => (I22 s (cnt (s.take j)) j).as 30) (by simp) s.length 0 (by omega) (fun j _ hj => by
      have hn := get_of hj
      have hm := srt_mem ok.srt _ (get_mem hn)
      have hu := ok.up _ (get_mem hn)
      have b1 := hb j
      have b2 := hb (j + 1)
      have e : cnt (s.take (j + 1)) = cnt (s.take j) + (s[j].2 - s[j].1) := by rw [take_snoc hn, cnt_append]; simp [cnt]
      show Runs _ _ _ _ _ ((I22 s (cnt (s.take (j + 1))) (j + 1)).as _)
      rw [e]
      rw [e] at b2
      exact r22 s hl _ j _ hn k1 (by rw [IntKind.wrap_i64]; omega) (by rw [IntKind.wrap_i64]; omega)) (by simp only [List.take_length]; exact q22 s (cnt s))
    exact cnt22' s _ _ hL
  · rw [if_neg h]
    refine cnt22' s 0 0 (.out (q22n s _ h k1 ?_) (by simp))
    cases s with
    | nil => exact absurd rfl h
    | cons x s => simp
/-! ### Holds, First -/
def stp (n : Int) (y : Iv) : Int := if n ≥ y.1 ∧ n < y.2 then y.2 else n
def itR (s : List Iv) (n : Int) : Nat → Int
  | 0 => n
  | k + 1 => s.foldl stp (itR s n k)
def I27 (s : List Iv) (x : Iv) (n : Int) (j : Nat) : St := ⟨[(0, .d (.sl (s.map ivD))), (3, .ptr 0 0), (5, .d (.int .i64 n)), (6, .d (.int .i64 j))], [(0, ivB x)]⟩
def J27 (s : List Iv) (x : Iv) (n : Int) (j i : Nat) : St := ⟨[(0, .d (.sl (s.map ivD))), (3, .ptr 0 0), (5, .d (.int .i64 n)), (6, .d (.int .i64 j)), (7, .d (.int .i64 i))], [(0, ivB x)]⟩
def I29 (s : List Iv) (n : Int) (j : Nat) : St := ⟨[(0, .d (.sl (s.map ivD))), (5, .d (.int .i64 n)), (6, .d (.int .i64 j))], []⟩
def J29 (s : List Iv) (n : Int) (j i : Nat) : St := ⟨[(0, .d (.sl (s.map ivD))), (5, .d (.int .i64 n)), (6, .d (.int .i64 j)), (7, .d (.int .i64 i))], []⟩
set_option maxRecDepth 100000 in
set_option maxHeartbeats 1000000 in
theorem r29a (s : List Iv) (hl : s.length < 1000000) (n : Int) (j i : Nat) (y : Iv) (hn : s[i]? = some y) (h : n ≥ y.1) (h2 : n < y.2) : Runs Try.prog 0 (loopN Try.prog 56 1) (St.as (J29 s n j i) 44) (.normal) (St.as (J29 s y.2 j (i+1)) 44) := by
  refine round_wp (p := condP (decide ((↑i : Int) < (↑(List.map ivD s).length : Int))) (((0 : Int) ≤ (↑i : Int)) ∧ (((List.map ivD s)[(↑i : Int).toNat]? = some (D.agg [D.int .i64 y.fst, D.int .i64 y.snd])) ∧ ((D.bool (decide (n ≥ y.fst)) = D.bool true) ∧ ((D.bool true = D.bool true) ∧ (((0 : Int) ≤ (↑i : Int)) ∧ (((List.map ivD s)[(↑i : Int).toNat]? = some (D.agg [D.int .i64 y.fst, D.int .i64 y.snd])) ∧ ((D.bool (decide (n < y.snd)) = D.bool true) ∧ (((0 : Int) ≤ (↑i : Int)) ∧ (((List.map ivD s)[(↑i : Int).toNat]? = some (D.agg [D.int .i64 y.fst, D.int .i64 y.snd])) ∧ ((AV.d (.sl (List.map ivD s)) = AV.d (.sl (List.map ivD s))) ∧ ((AV.d (.int .i64 y.snd) = AV.d (.int .i64 y.snd)) ∧ ((AV.d (.int .i64 (↑j : Int)) = AV.d (.int .i64 (↑j : Int))) ∧ ((AV.d (.int .i64 (IntKind.i64.wrap ((↑i : Int) + (1 : Int)))) = AV.d (.int .i64 (↑(i + 1) : Int))) ∧ (True)))))))))))))) (False)) (h := {els := [(23, .el (ivD y)), (31, .el (ivD y)), (38, .el (ivD y))], H := [(8, [(6, .val (.bool true)), (14, .val (.bool true))])]}) (subs := []) (ws := []) (ρ := []) (by kernel_rfl) ?_
  have hj := get_lt hn
  have hi := inc_i64 (j := i) (by omega)
  simp only [hi, List.length_map]
  refine condP_t (by rw [decide_eq_true_eq]; omega) ?_
  repeat' (with_reducible first | exact True.intro | apply And.intro | (first | apply zA | apply zB | apply zC | apply zD | apply zE | apply zF | apply zG) <;> intro)
  all_goals first | exact el_map hn rfl | rfl | omega | exact dyes (by omega) | exact dno (by omega) | skip

set_option maxRecDepth 100000 in
set_option maxHeartbeats 1000000 in
theorem r29b (s : List Iv) (hl : s.length < 1000000) (n : Int) (j i : Nat) (y : Iv) (hn : s[i]? = some y) (h : n ≥ y.1) (h2 : ¬n < y.2) : Runs Try.prog 0 (loopN Try.prog 56 1) (St.as (J29 s n j i) 44) (.normal) (St.as (J29 s n j (i+1)) 44) := by
  refine round_wp (p := condP (decide ((↑i : Int) < (↑(List.map ivD s).length : Int))) (((0 : Int) ≤ (↑i : Int)) ∧ (((List.map ivD s)[(↑i : Int).toNat]? = some (D.agg [D.int .i64 y.fst, D.int .i64 y.snd])) ∧ ((D.bool (decide (n ≥ y.fst)) = D.bool true) ∧ ((D.bool true = D.bool true) ∧ (((0 : Int) ≤ (↑i : Int)) ∧ (((List.map ivD s)[(↑i : Int).toNat]? = some (D.agg [D.int .i64 y.fst, D.int .i64 y.snd])) ∧ ((D.bool (decide (n < y.snd)) = D.bool false) ∧ ((AV.d (.sl (List.map ivD s)) = AV.d (.sl (List.map ivD s))) ∧ ((AV.d (.int .i64 n) = AV.d (.int .i64 n)) ∧ ((AV.d (.int .i64 (↑j : Int)) = AV.d (.int .i64 (↑j : Int))) ∧ ((AV.d (.int .i64 (IntKind.i64.wrap ((↑i : Int) + (1 : Int)))) = AV.d (.int .i64 (↑(i + 1) : Int))) ∧ (True)))))))))))) (False)) (h := {els := [(23, .el (ivD y)), (31, .el (ivD y))], H := [(8, [(6, .val (.bool true)), (14, .val (.bool false))])]}) (subs := []) (ws := []) (ρ := []) (by kernel_rfl) ?_
  have hj := get_lt hn
  have hi := inc_i64 (j := i) (by omega)
  simp only [hi, List.length_map]
  refine condP_t (by rw [decide_eq_true_eq]; omega) ?_
  repeat' (with_reducible first | exact True.intro | apply And.intro | (first | apply zA | apply zB | apply zC | apply zD | apply zE | apply zF | apply zG) <;> intro)
  all_goals first | exact el_map hn rfl | rfl | omega | exact dyes (by omega) | exact dno (by omega) | skip

set_option maxRecDepth 100000 in
set_option maxHeartbeats 1000000 in
theorem r29c (s : List Iv) (hl : s.length < 1000000) (n : Int) (j i : Nat) (y : Iv) (hn : s[i]? = some y) (h : ¬n ≥ y.1) : Runs Try.prog 0 (loopN Try.prog 56 1) (St.as (J29 s n j i) 44) (.normal) (St.as (J29 s n j (i+1)) 44) := by
  refine round_wp (p := condP (decide ((↑i : Int) < (↑(List.map ivD s).length : Int))) (((0 : Int) ≤ (↑i : Int)) ∧ (((List.map ivD s)[(↑i : Int).toNat]? = some (D.agg [D.int .i64 y.fst, D.int .i64 y.snd])) ∧ ((D.bool (decide (n ≥ y.fst)) = D.bool false) ∧ ((D.bool false = D.bool false) ∧ ((AV.d (.sl (List.map ivD s)) = AV.d (.sl (List.map ivD s))) ∧ ((AV.d (.int .i64 n) = AV.d (.int .i64 n)) ∧ ((AV.d (.int .i64 (↑j : Int)) = AV.d (.int .i64 (↑j : Int))) ∧ ((AV.d (.int .i64 (IntKind.i64.wrap ((↑i : Int) + (1 : Int)))) = AV.d (.int .i64 (↑(i + 1) : Int))) ∧ (True))))))))) (False)) (h := {els := [(23, .el (ivD y))], H := [(8, [(6, .val (.bool false))])]}) (subs := []) (ws := []) (ρ := []) (by kernel_rfl) ?_
  have hj := get_lt hn
  have hi := inc_i64 (j := i) (by omega)
  simp only [hi, List.length_map]
  refine condP_t (by rw [decide_eq_true_eq]; omega) ?_
  repeat' (with_reducible first | exact True.intro | apply And.intro | (first | apply zA | apply zB | apply zC | apply zD | apply zE | apply zF | apply zG) <;> intro)
  all_goals first | exact el_map hn rfl | rfl | omega | exact dyes (by omega) | exact dno (by omega) | skip

set_option maxRecDepth 100000 in
set_option maxHeartbeats 1000000 in
theorem q29 (s : List Iv) (n : Int) (j : Nat) : Runs Try.prog 0 (loopN Try.prog 56 1) (St.as (J29 s n j s.length) 44) (.exit 2) (St.as (J29 s n j s.length) 44) := by
  refine round_wp (p := condP (decide ((↑s.length : Int) < (↑(List.map ivD s).length : Int))) (False) ((AV.d (.sl (List.map ivD s)) = AV.d (.sl (List.map ivD s))) ∧ ((AV.d (.int .i64 n) = AV.d (.int .i64 n)) ∧ ((AV.d (.int .i64 (↑j : Int)) = AV.d (.int .i64 (↑j : Int))) ∧ ((AV.d (.int .i64 (↑s.length : Int)) = AV.d (.int .i64 (↑s.length : Int))) ∧ (True)))))) (h := {}) (subs := []) (ws := []) (ρ := []) (by kernel_rfl) ?_
  simp only [List.length_map]
  repeat' (with_reducible first | exact True.intro | apply And.intro | (first | apply zA | apply zB | apply zC | apply zD | apply zE | apply zF | apply zG) <;> intro)
  all_goals (try simp only [List.length_map, AV.d.injEq, D.int.injEq, D.bool.injEq, D.str.injEq, D.sl.injEq, true_and, and_true, decide_eq_true_eq, decide_eq_false_iff_not, decide_eq_decide])
  all_goals (try simp only [List.length_map] at *)
  all_goals first | rfl | omega

theorem l29 (s : List Iv) (hl : s.length < 1000000) (n : Int) (j : Nat) : Loops Try.prog 0 (loopN Try.prog 56 1) ((J29 s n j 0).as 44) (.exit 2) ((J29 s (s.foldl stp n) j s.length).as 44) := by
  have h := loops_n (P := Try.prog) (k := 0) (c := loopN Try.prog 56 1) (e := .exit 2) (I := fun i => (J29 s ((s.take i).foldl stp n) j i).as 44) (by simp) s.length 0 (by omega) (fun i _ hi => ?_) (by simp only [List.take_length]; exact q29 s _ j)
  · exact h
  · have hn := get_of hi
    show Runs _ _ _ _ _ ((J29 s ((s.take (i + 1)).foldl stp n) j (i + 1)).as _)
    rw [take_snoc hn, List.foldl_append]
    show Runs _ _ _ _ _ ((J29 s (stp _ s[i]) j (i + 1)).as _)
    unfold stp
    split
    · rename_i g; exact r29a s hl _ j i _ hn g.1 g.2
    · rename_i g
      by_cases g1 : (s.take i).foldl stp n ≥ s[i].1
      · exact r29b s hl _ j i _ hn g1 (fun g2 => g ⟨g1, g2⟩)
      · exact r29c s hl _ j i _ hn g1
set_option maxRecDepth 100000 in
set_option maxHeartbeats 1000000 in
theorem o29 (s : List Iv) (hl : s.length < 1000000) (n m : Int) (j : Nat) (hj : j ≤ s.length) (hL : Loops Try.prog 0 (loopN Try.prog 56 1) ((J29 s n j 0).as 44) (.exit 2) ((J29 s m j s.length).as 44)) : Runs Try.prog 0 (loopN Try.prog 56 0) (St.as (I29 s n j) 44) (.normal) (St.as (I29 s m (j+1)) 44) := by
  refine round_wp (p := condP (decide ((↑j : Int) ≤ (↑(List.map ivD s).length : Int))) ((AV.d (.sl (List.map ivD s)) = AV.d (.sl (List.map ivD s))) ∧ ((AV.d (.int .i64 n) = AV.d (.int .i64 n)) ∧ ((AV.d (.int .i64 (↑j : Int)) = AV.d (.int .i64 (↑j : Int))) ∧ ((AV.d (.int .i64 (0 : Int)) = AV.d (.int .i64 (0 : Int))) ∧ ((LoopsS Try.prog 0 (loopN Try.prog 56 1) (J29 s n j 0) (Exit.exit 2) (J29 s m j s.length) 44) ∧ ((AV.d (.sl (List.map ivD s)) = AV.d (.sl (List.map ivD s))) ∧ ((AV.d (.int .i64 m) = AV.d (.int .i64 m)) ∧ ((AV.d (.int .i64 (IntKind.i64.wrap ((↑j : Int) + (1 : Int)))) = AV.d (.int .i64 (↑(j + 1) : Int))) ∧ (True))))))))) (False)) (h := {}) (subs := [⟨[], [], J29 s n j 0, .exit 2, J29 s m j s.length⟩]) (ws := []) (ρ := []) (by kernel_rfl) ?_
  have hi := inc_i64 (j := j) (by omega)
  simp only [hi, List.length_map]
  refine condP_t (by rw [decide_eq_true_eq]; omega) ?_
  repeat' (with_reducible first | exact True.intro | apply And.intro | (first | apply zA | apply zB | apply zC | apply zD | apply zE | apply zF | apply zG) <;> intro)
  all_goals first | exact hL | rfl | omega | skip

set_option maxRecDepth 100000 in
set_option maxHeartbeats 1000000 in
theorem p29 (s : List Iv) (n : Int) : Runs Try.prog 0 (loopN Try.prog 56 0) (St.as (I29 s n (s.length + 1)) 44) (.exit 0) (St.as (I29 s n (s.length + 1)) 44) := by
  refine round_wp (p := condP (decide ((↑(s.length + 1) : Int) ≤ (↑(List.map ivD s).length : Int))) (False) ((AV.d (.sl (List.map ivD s)) = AV.d (.sl (List.map ivD s))) ∧ ((AV.d (.int .i64 n) = AV.d (.int .i64 n)) ∧ ((AV.d (.int .i64 (↑(s.length + 1) : Int)) = AV.d (.int .i64 (↑(s.length + 1) : Int))) ∧ (True))))) (h := {}) (subs := []) (ws := []) (ρ := []) (by kernel_rfl) ?_
  simp only [List.length_map]
  repeat' (with_reducible first | exact True.intro | apply And.intro | (first | apply zA | apply zB | apply zC | apply zD | apply zE | apply zF | apply zG) <;> intro)
  all_goals (try simp only [List.length_map, AV.d.injEq, D.int.injEq, D.bool.injEq, D.str.injEq, D.sl.injEq, true_and, and_true, decide_eq_true_eq, decide_eq_false_iff_not, decide_eq_decide])
  all_goals (try simp only [List.length_map] at *)
  all_goals first | rfl | omega

set_option maxRecDepth 100000 in
set_option maxHeartbeats 1000000 in
theorem first29' (s : List Iv) (n n0 m : Int) (h0 : max 0 n = n0) (hL : Loops Try.prog 0 (loopN Try.prog 56 0) ((I29 s n0 0).as 44) (.exit 0) ((I29 s m (s.length + 1)).as 44)) : FnOK Try.prog 56 ([.d (.sl (s.map ivD)), .d (.int .i64 n)]) ([]) (.d (.int .i64 m)) ([]) := by
  refine fnOK_wp (p := (D.int .i64 (max (0 : Int) n) = D.int .i64 n0) ∧ ((AV.d (.sl (List.map ivD s)) = AV.d (.sl (List.map ivD s))) ∧ ((AV.d (.int .i64 n0) = AV.d (.int .i64 n0)) ∧ ((AV.d (.int .i64 (0 : Int)) = AV.d (.int .i64 (0 : Int))) ∧ ((LoopsS Try.prog 0 (loopN Try.prog 56 0) (I29 s n0 0) (Exit.exit 0) (I29 s m (s.length + 1)) 44) ∧ ((AV.d (.int .i64 m) = AV.d (.int .i64 m)) ∧ (True))))))) (h := {H := [(1, [(1, .val (.int .i64 n0))])]}) (subs := [⟨[], [], I29 s n0 0, .exit 0, I29 s m (s.length + 1)⟩]) (ws := []) (ρ := []) (by kernel_rfl) ?_
  repeat' (with_reducible first | exact True.intro | apply And.intro | (first | apply zA | apply zB | apply zC | apply zD | apply zE | apply zF | apply zG) <;> intro)
  all_goals first | exact hL | rfl | exact congrArg (D.int .i64) h0 | skip

theorem first29 (s : List Iv) (hl : s.length < 100000) (n : Int) : FnOK Try.prog 56 [.d (.sl (s.map ivD)), .d (.int .i64 n)] [] (.d (.int .i64 (itR s (max 0 n) (s.length + 1)))) [] :=
  first29' s n _ _ rfl (loops_n (P := Try.prog) (k := 0) (c := loopN Try.prog 56 0) (e := .exit 0) (I := fun j => (I29 s (itR s (max 0 n) j) j).as 44) (by simp) (s.length + 1) 0 (by omega) (fun j _ hj => o29 s (by omega) _ _ j (by omega) (l29 s (by omega) _ j)) (p29 s _))
/-! ### Own, Back -/
def I8 (s : List Iv) (j : Nat) : St := ⟨[(0, .d (.sl (s.map ivD))), (3, .own 0 2), (4, .d (.int .i64 j))], [(0, .row 2 ((s.take j).map ivD))]⟩
set_option maxRecDepth 100000 in
set_option maxHeartbeats 1000000 in
theorem r8 (s : List Iv) (hl : s.length < 1000000) (j : Nat) (y : Iv) (hn : s[j]? = some y) : Runs Try.prog 0 (loopN Try.prog 21 0) (St.as (I8 s j) 19) (.normal) (St.as (I8 s (j+1)) 19) := by
  refine round_wp (p := condP (decide ((↑j : Int) < (↑(List.map ivD s).length : Int))) (((0 : Int) ≤ (↑j : Int)) ∧ (((List.map ivD s)[(↑j : Int).toNat]? = some (D.agg [D.int .i64 y.fst, D.int .i64 y.snd])) ∧ ((((List.map ivD (List.take j s)).length + [D.agg (List.take 2 [D.int .i64 y.fst, D.int .i64 y.snd])].length) * 16 ≤ 140737488355328) ∧ ((∀ (e : D), e ∈ chunk 2 1 [D.int .i64 y.fst, D.int .i64 y.snd] → e.cells.length = 2) ∧ ((AV.d (.sl (List.map ivD s)) = AV.d (.sl (List.map ivD s))) ∧ ((AV.own 1136 2 = AV.own 1136 2) ∧ ((AV.d (.int .i64 (IntKind.i64.wrap ((↑j : Int) + (1 : Int)))) = AV.d (.int .i64 (↑(j + 1) : Int))) ∧ ((Ob.row 2 (List.map ivD (List.take j s) ++ [D.agg (List.take 2 [D.int .i64 y.fst, D.int .i64 y.snd])]) = Ob.row 2 (List.map ivD (List.take (j + 1) s))) ∧ (True))))))))) (False)) (h := {els := [(12, .el (ivD y))]}) (subs := []) (ws := []) (ρ := []) (by kernel_rfl) ?_
  have hj := get_lt hn
  have hi := inc_i64 (j := j) (by omega)
  have e5 : (s.take (j + 1)).map ivD = (s.take j).map ivD ++ [ivD y] := by rw [take_snoc hn, List.map_append]; rfl
  simp only [hi, List.length_map]
  refine condP_t (by rw [decide_eq_true_eq]; omega) ?_
  repeat' (with_reducible first | exact True.intro | apply And.intro | (first | apply zA | apply zB | apply zC | apply zD | apply zE | apply zF | apply zG) <;> intro)
  all_goals first | exact el_map hn rfl | rfl | omega | exact congrArg (Ob.row 2) e5.symm | (simp only [List.length_map, List.length_take, List.length_cons, List.length_nil]; omega) | (simp [chunk, ivD, D.cells]; done) | skip

set_option maxRecDepth 100000 in
set_option maxHeartbeats 1000000 in
theorem q8 (s : List Iv) : Runs Try.prog 0 (loopN Try.prog 21 0) (St.as (I8 s s.length) 19) (.exit 0) (St.as (I8 s s.length) 19) := by
  refine round_wp (p := condP (decide ((↑s.length : Int) < (↑(List.map ivD s).length : Int))) (False) ((AV.d (.sl (List.map ivD s)) = AV.d (.sl (List.map ivD s))) ∧ ((AV.own 0 2 = AV.own 0 2) ∧ ((AV.d (.int .i64 (↑s.length : Int)) = AV.d (.int .i64 (↑s.length : Int))) ∧ ((Ob.row 2 (List.map ivD (List.take s.length s)) = Ob.row 2 (List.map ivD (List.take s.length s))) ∧ (True)))))) (h := {}) (subs := []) (ws := []) (ρ := []) (by kernel_rfl) ?_
  simp only [List.length_map]
  repeat' (with_reducible first | exact True.intro | apply And.intro | (first | apply zA | apply zB | apply zC | apply zD | apply zE | apply zF | apply zG) <;> intro)
  all_goals (try simp only [List.length_map, AV.d.injEq, D.int.injEq, D.bool.injEq, D.str.injEq, D.sl.injEq, true_and, and_true, decide_eq_true_eq, decide_eq_false_iff_not, decide_eq_decide])
  all_goals (try simp only [List.length_map] at *)
  all_goals first | rfl | omega

set_option maxRecDepth 100000 in
set_option maxHeartbeats 1000000 in
theorem own8' (s : List Iv) (hL : Loops Try.prog 0 (loopN Try.prog 21 0) ((I8 s 0).as 19) (.exit 0) ((I8 s s.length).as 19)) : FnOK Try.prog 21 ([.d (.sl (s.map ivD))]) ([]) (.d (.sl (s.map ivD))) ([]) := by
  refine fnOK_wp (p := (AV.d (.sl (List.map ivD s)) = AV.d (.sl (List.map ivD s))) ∧ ((AV.own 900 2 = AV.own 900 2) ∧ ((AV.d (.int .i64 (0 : Int)) = AV.d (.int .i64 (0 : Int))) ∧ ((Ob.row 2 [] = Ob.row 2 []) ∧ ((LoopsS Try.prog 0 (loopN Try.prog 21 0) (I8 s 0) (Exit.exit 0) (I8 s s.length) 19) ∧ ((AV.d (.sl (List.map ivD (List.take s.length s))) = AV.d (.sl (List.map ivD s))) ∧ (True))))))) (h := {}) (subs := [⟨[], [], I8 s 0, .exit 0, I8 s s.length⟩]) (ws := []) (ρ := []) (by kernel_rfl) ?_
  repeat' (with_reducible first | exact True.intro | apply And.intro | (first | apply zA | apply zB | apply zC | apply zD | apply zE | apply zF | apply zG) <;> intro)
  all_goals first | exact hL | rfl | (rw [List.take_length]; done) | skip

set_option maxRecDepth 100000 in
set_option maxHeartbeats 1000000 in
theorem r10 (s : List Iv) (hl : s.length < 1000000) (j : Nat) (y : Iv) (hn : s[j]? = some y) : Runs Try.prog 0 (loopN Try.prog 44 0) (St.as (I8 s j) 19) (.normal) (St.as (I8 s (j+1)) 19) := by
  refine round_wp (p := condP (decide ((↑j : Int) < (↑(List.map ivD s).length : Int))) (((0 : Int) ≤ (↑j : Int)) ∧ (((List.map ivD s)[(↑j : Int).toNat]? = some (D.agg [D.int .i64 y.fst, D.int .i64 y.snd])) ∧ ((((List.map ivD (List.take j s)).length + [D.agg (List.take 2 [D.int .i64 y.fst, D.int .i64 y.snd])].length) * 16 ≤ 140737488355328) ∧ ((∀ (e : D), e ∈ chunk 2 1 [D.int .i64 y.fst, D.int .i64 y.snd] → e.cells.length = 2) ∧ ((AV.d (.sl (List.map ivD s)) = AV.d (.sl (List.map ivD s))) ∧ ((AV.own 1136 2 = AV.own 1136 2) ∧ ((AV.d (.int .i64 (IntKind.i64.wrap ((↑j : Int) + (1 : Int)))) = AV.d (.int .i64 (↑(j + 1) : Int))) ∧ ((Ob.row 2 (List.map ivD (List.take j s) ++ [D.agg (List.take 2 [D.int .i64 y.fst, D.int .i64 y.snd])]) = Ob.row 2 (List.map ivD (List.take (j + 1) s))) ∧ (True))))))))) (False)) (h := {els := [(12, .el (ivD y))]}) (subs := []) (ws := []) (ρ := []) (by kernel_rfl) ?_
  have hj := get_lt hn
  have hi := inc_i64 (j := j) (by omega)
  have e5 : (s.take (j + 1)).map ivD = (s.take j).map ivD ++ [ivD y] := by rw [take_snoc hn, List.map_append]; rfl
  simp only [hi, List.length_map]
  refine condP_t (by rw [decide_eq_true_eq]; omega) ?_
  repeat' (with_reducible first | exact True.intro | apply And.intro | (first | apply zA | apply zB | apply zC | apply zD | apply zE | apply zF | apply zG) <;> intro)
  all_goals first | exact el_map hn rfl | rfl | omega | exact congrArg (Ob.row 2) e5.symm | (simp only [List.length_map, List.length_take, List.length_cons, List.length_nil]; omega) | (simp [chunk, ivD, D.cells]; done) | skip

set_option maxRecDepth 100000 in
set_option maxHeartbeats 1000000 in
theorem q10 (s : List Iv) : Runs Try.prog 0 (loopN Try.prog 44 0) (St.as (I8 s s.length) 19) (.exit 0) (St.as (I8 s s.length) 19) := by
  refine round_wp (p := condP (decide ((↑s.length : Int) < (↑(List.map ivD s).length : Int))) (False) ((AV.d (.sl (List.map ivD s)) = AV.d (.sl (List.map ivD s))) ∧ ((AV.own 0 2 = AV.own 0 2) ∧ ((AV.d (.int .i64 (↑s.length : Int)) = AV.d (.int .i64 (↑s.length : Int))) ∧ ((Ob.row 2 (List.map ivD (List.take s.length s)) = Ob.row 2 (List.map ivD (List.take s.length s))) ∧ (True)))))) (h := {}) (subs := []) (ws := []) (ρ := []) (by kernel_rfl) ?_
  simp only [List.length_map]
  repeat' (with_reducible first | exact True.intro | apply And.intro | (first | apply zA | apply zB | apply zC | apply zD | apply zE | apply zF | apply zG) <;> intro)
  all_goals (try simp only [List.length_map, AV.d.injEq, D.int.injEq, D.bool.injEq, D.str.injEq, D.sl.injEq, true_and, and_true, decide_eq_true_eq, decide_eq_false_iff_not, decide_eq_decide])
  all_goals (try simp only [List.length_map] at *)
  all_goals first | rfl | omega

set_option maxRecDepth 100000 in
set_option maxHeartbeats 1000000 in
theorem back10' (s : List Iv) (hL : Loops Try.prog 0 (loopN Try.prog 44 0) ((I8 s 0).as 19) (.exit 0) ((I8 s s.length).as 19)) : FnOK Try.prog 44 ([.d (.sl (s.map ivD))]) ([]) (.d (.sl (s.map ivD))) ([]) := by
  refine fnOK_wp (p := (AV.d (.sl (List.map ivD s)) = AV.d (.sl (List.map ivD s))) ∧ ((AV.own 900 2 = AV.own 900 2) ∧ ((AV.d (.int .i64 (0 : Int)) = AV.d (.int .i64 (0 : Int))) ∧ ((Ob.row 2 [] = Ob.row 2 []) ∧ ((LoopsS Try.prog 0 (loopN Try.prog 44 0) (I8 s 0) (Exit.exit 0) (I8 s s.length) 19) ∧ ((AV.d (.sl (List.map ivD (List.take s.length s))) = AV.d (.sl (List.map ivD s))) ∧ (True))))))) (h := {}) (subs := [⟨[], [], I8 s 0, .exit 0, I8 s s.length⟩]) (ws := []) (ρ := []) (by kernel_rfl) ?_
  repeat' (with_reducible first | exact True.intro | apply And.intro | (first | apply zA | apply zB | apply zC | apply zD | apply zE | apply zF | apply zG) <;> intro)
  all_goals first | exact hL | rfl | (rw [List.take_length]; done) | skip

theorem own8 (s : List Iv) (hl : s.length < 1000000) : FnOK Try.prog 21 [.d (.sl (s.map ivD))] [] (.d (.sl (s.map ivD))) [] :=
  own8' s (loops_n (I := fun j => (I8 s j).as 19) (by simp) s.length 0 (by omega) (fun j _ hj => r8 s hl j _ (get_of hj)) (q8 s))
theorem back10 (s : List Iv) (hl : s.length < 1000000) : FnOK Try.prog 44 [.d (.sl (s.map ivD))] [] (.d (.sl (s.map ivD))) [] :=
  back10' s (loops_n (I := fun j => (I8 s j).as 19) (by simp) s.length 0 (by omega) (fun j _ hj => r10 s hl j _ (get_of hj)) (q10 s))
end Go.Proofs.Ytfllhedkgeljaaa.C06
