/-
laws 06: ends, small ones; the library's functions; whether a set may be.
-/
import Derived.Test.YtfllhedkgeljaaaC06S0
import Derived.Test.YtfllhedkgeljaaaProg
import Derived.KernelRfl
set_option linter.unusedSimpArgs false
set_option linter.unusedVariables false
namespace Go.Proofs.Ytfllhedkgeljaaa.C06
open Sx Go.RowKit

def gAns (a : AV) : List D → Option (AV × List Ob) := fun _ => some (a, [])
def gYes : List D → Option (AV × List Ob) := fun _ => some (.d (.bool true), [])
def gId : List D → Option (AV × List Ob) := fun | [d] => some (.d d, []) | _ => none

theorem ivD_sz (l : List Iv) : ∀ e ∈ l.map ivD, e.cells.length = 2 := by
  intro e he
  obtain ⟨x, -, rfl⟩ := List.mem_map.1 he
  rfl
set_option maxRecDepth 100000 in
set_option maxHeartbeats 1000000 in
theorem ivD_cloneP (l : List Iv) (hl : l.length < 1073741824) (hne : l.map ivD ≠ []) : FnOK Try.prog 68 ([.d (.sl (l.map ivD))]) ([]) (.own 0 2) ([.row 2 (l.map ivD)]) := by
  refine fnOK_wp (p := (D.bool false = D.bool false) ∧ ((List.map ivD l ≠ []) ∧ (((0 + (List.map ivD l).length) * 16 ≤ 140737488355328) ∧ ((∀ (e : D), e ∈ List.map ivD l → e.cells.length = 2) ∧ ((AV.own 1056 2 = AV.own 1056 2) ∧ ((Ob.row 2 ([] ++ List.map ivD l) = Ob.row 2 (List.map ivD l)) ∧ (True))))))) (h := {H := [(1, [(1, .val (.bool false))])]}) (subs := []) (ws := []) (ρ := []) (by kernel_rfl) ?_
  repeat' (with_reducible first | exact True.intro | apply And.intro | (first | apply zA | apply zB | apply zC | apply zD | apply zE | apply zF | apply zG) <;> intro)
  all_goals first | exact hne | rfl | (simp; omega) | exact ivD_sz _ | skip

set_option maxRecDepth 100000 in
set_option maxHeartbeats 1000000 in
theorem ivD_cloneZ (a : Option Addr) (c : Nat) : FnOK Try.prog 68 ([.raw (.slice a 0 c)]) ([]) (.own 0 2) ([.row 2 []]) := by
  refine fnOK_wp (p := condP (a.isNone) ((AV.own 900 2 = AV.own 900 2) ∧ ((Ob.row 2 [] = Ob.row 2 []) ∧ (True))) ((0 ≤ 140737488355328) ∧ ((∀ (e : D), e ∈ [] → e.cells.length = 2) ∧ ((AV.own 1056 2 = AV.own 1056 2) ∧ ((Ob.row 2 [] = Ob.row 2 []) ∧ (True)))))) (h := {}) (subs := []) (ws := []) (ρ := []) (by kernel_rfl) ?_
  repeat' (with_reducible first | exact True.intro | apply And.intro | (first | apply zA | apply zB | apply zC | apply zD | apply zE | apply zF | apply zG) <;> intro)
  all_goals first | rfl | (simp; done) | (intro e he; simp at he; done) | skip

theorem ivD_clone (l : List Iv) (hl : l.length < 1073741824) : FnOK Try.prog 68 [.d (.sl (l.map ivD))] [] (.own 0 2) [.row 2 (l.map ivD)] := by
  cases l with
  | nil => exact fnOK_nil fun a c => ivD_cloneZ a c
  | cons x r => exact ivD_cloneP (x :: r) hl (by simp)
set_option maxRecDepth 100000 in
set_option maxHeartbeats 1000000 in
theorem ivD_cloneQ (l : List Iv) (hl : l.length < 1073741824) (hne : l.map ivD ≠ []) : FnOK Try.prog 68 ([.own 0 2]) ([.row 2 (l.map ivD)]) (.own 1 2) ([.row 2 (l.map ivD), .row 2 (l.map ivD)]) := by
  refine fnOK_wp (p := (D.bool false = D.bool false) ∧ ((List.map ivD l ≠ []) ∧ (((0 + (List.map ivD l).length) * 16 ≤ 140737488355328) ∧ ((∀ (e : D), e ∈ List.map ivD l → e.cells.length = 2) ∧ ((AV.own 1056 2 = AV.own 1056 2) ∧ ((Ob.row 2 (List.map ivD l) = Ob.row 2 (List.map ivD l)) ∧ ((Ob.row 2 ([] ++ List.map ivD l) = Ob.row 2 (List.map ivD l)) ∧ (True)))))))) (h := {H := [(1, [(1, .val (.bool false))])]}) (subs := []) (ws := []) (ρ := []) (by kernel_rfl) ?_
  repeat' (with_reducible first | exact True.intro | apply And.intro | (first | apply zA | apply zB | apply zC | apply zD | apply zE | apply zF | apply zG) <;> intro)
  all_goals first | exact hne | rfl | (simp; omega) | exact ivD_sz _ | skip

set_option maxRecDepth 100000 in
set_option maxHeartbeats 1000000 in
theorem ivD_cloneW (a : Option Addr) (c : Nat) : FnOK Try.prog 68 ([.raw (.slice a 0 c)]) ([.row 2 []]) (.own 1 2) ([.row 2 [], .row 2 []]) := by
  refine fnOK_wp (p := condP (a.isNone) ((AV.own 901 2 = AV.own 901 2) ∧ ((Ob.row 2 [] = Ob.row 2 []) ∧ ((Ob.row 2 [] = Ob.row 2 []) ∧ (True)))) ((0 ≤ 140737488355328) ∧ ((∀ (e : D), e ∈ [] → e.cells.length = 2) ∧ ((AV.own 1056 2 = AV.own 1056 2) ∧ ((Ob.row 2 [] = Ob.row 2 []) ∧ ((Ob.row 2 [] = Ob.row 2 []) ∧ (True))))))) (h := {}) (subs := []) (ws := []) (ρ := []) (by kernel_rfl) ?_
  repeat' (with_reducible first | exact True.intro | apply And.intro | (first | apply zA | apply zB | apply zC | apply zD | apply zE | apply zF | apply zG) <;> intro)
  all_goals first | rfl | (simp; done) | (intro e he; simp at he; done) | skip

theorem ivD_cloneO (l : List Iv) (hl : l.length < 1073741824) : FnOK Try.prog 68 [.own 0 2] [.row 2 (l.map ivD)] (.own 1 2) [.row 2 (l.map ivD), .row 2 (l.map ivD)] := by
  cases l with
  | nil => exact fnOK_nilO rfl fun a c => ivD_cloneW a c
  | cons x r => exact ivD_cloneQ (x :: r) hl (by simp)


def ivD_E (a b : List Iv) (j : Nat) : St := ⟨[(0, .d (.sl (a.map ivD))), (1, .d (.sl (b.map ivD))), (13, .d (.int .i64 j)), (12, .d (.int .i64 a.length))], []⟩
def ivD_O : St := ⟨[(4, .d (.bool false))], []⟩
set_option maxRecDepth 100000 in
set_option maxHeartbeats 1000000 in
theorem ivD_er (a b : List Iv) (hl : a.length < 1073741824) (j : Nat) (x : Iv) (hx : a[j]? = some x) (hy : b[j]? = some x) : Runs Try.prog 0 (loopN Try.prog 82 0) (St.as (ivD_E a b j) 26) (.normal) (St.as (ivD_E a b (j+1)) 26) := by
  refine round_wp (p := condP (decide ((↑j : Int) < (↑a.length : Int))) (((0 : Int) ≤ (↑j : Int)) ∧ (((List.map ivD a)[(↑j : Int).toNat]? = some (D.agg [D.int .i64 x.fst, D.int .i64 x.snd])) ∧ (((0 : Int) ≤ (↑j : Int)) ∧ (((List.map ivD b)[(↑j : Int).toNat]? = some (D.agg [D.int .i64 x.fst, D.int .i64 x.snd])) ∧ (((D.bool !(x.fst == x.fst && (x.snd == x.snd && true))) = D.bool false) ∧ ((AV.d (.sl (List.map ivD a)) = AV.d (.sl (List.map ivD a))) ∧ ((AV.d (.sl (List.map ivD b)) = AV.d (.sl (List.map ivD b))) ∧ ((AV.d (.int .i64 (IntKind.i64.wrap ((↑j : Int) + (1 : Int)))) = AV.d (.int .i64 (↑(j + 1) : Int))) ∧ ((AV.d (.int .i64 (↑a.length : Int)) = AV.d (.int .i64 (↑a.length : Int))) ∧ (True)))))))))) (False)) (h := {els := [(16, .el (ivD x)), (20, .el (ivD x))], H := [(6, [(8, .val (.bool false))])]}) (subs := []) (ws := []) (ρ := []) (by kernel_rfl) ?_
  have hj := get_lt hx
  have hj2 := get_lt hy
  have hi := inc_i64 (j := j) (by omega)
  simp only [List.length_map, hi]
  refine condP_t (by rw [decide_eq_true_eq]; omega) ?_
  repeat' (with_reducible first | exact True.intro | apply And.intro | (first | apply zA | apply zB | apply zC | apply zD | apply zE | apply zF | apply zG) <;> intro)
  all_goals first | exact el_map hx rfl | exact el_map hy rfl | rfl | omega | (refine congrArg D.bool ?_; simp; done) | (exfalso; simp_all; done) | (refine congrArg D.bool ?_; rw [ivD_ne hne]; rfl) | (exfalso; have hq := ivD_ne hne; simp_all; done) | skip

set_option maxRecDepth 100000 in
set_option maxHeartbeats 1000000 in
theorem ivD_ee (a b : List Iv) (hl : a.length < 1073741824) (j : Nat) (x y : Iv) (hx : a[j]? = some x) (hy : b[j]? = some y) (hne : x ≠ y) : Runs Try.prog 0 (loopN Try.prog 82 0) (St.as (ivD_E a b j) 26) (.ret) (St.as (ivD_O) 26) := by
  refine round_wp (p := condP (decide ((↑j : Int) < (↑a.length : Int))) (((0 : Int) ≤ (↑j : Int)) ∧ (((List.map ivD a)[(↑j : Int).toNat]? = some (D.agg [D.int .i64 x.fst, D.int .i64 x.snd])) ∧ (((0 : Int) ≤ (↑j : Int)) ∧ (((List.map ivD b)[(↑j : Int).toNat]? = some (D.agg [D.int .i64 y.fst, D.int .i64 y.snd])) ∧ (((D.bool !(x.fst == y.fst && (x.snd == y.snd && true))) = D.bool true) ∧ ((AV.d (.bool false) = AV.d (.bool false)) ∧ (True))))))) (False)) (h := {els := [(16, .el (ivD x)), (20, .el (ivD y))], H := [(6, [(8, .val (.bool true))])]}) (subs := []) (ws := []) (ρ := []) (by kernel_rfl) ?_
  have hj := get_lt hx
  have hj2 := get_lt hy
  have hi := inc_i64 (j := j) (by omega)
  simp only [List.length_map, hi]
  refine condP_t (by rw [decide_eq_true_eq]; omega) ?_
  repeat' (with_reducible first | exact True.intro | apply And.intro | (first | apply zA | apply zB | apply zC | apply zD | apply zE | apply zF | apply zG) <;> intro)
  all_goals first | exact el_map hx rfl | exact el_map hy rfl | rfl | omega | (refine congrArg D.bool ?_; simp; done) | (exfalso; simp_all; done) | (refine congrArg D.bool ?_; rw [ivD_ne hne]; rfl) | (exfalso; have hq := ivD_ne hne; simp_all; done) | skip

set_option maxRecDepth 100000 in
set_option maxHeartbeats 1000000 in
theorem ivD_eq' (a b : List Iv) : Runs Try.prog 0 (loopN Try.prog 82 0) (St.as (ivD_E a b a.length) 26) (.exit 0) (St.as (ivD_E a b a.length) 26) := by
  refine round_wp (p := condP (decide ((↑a.length : Int) < (↑a.length : Int))) (False) ((AV.d (.sl (List.map ivD a)) = AV.d (.sl (List.map ivD a))) ∧ ((AV.d (.sl (List.map ivD b)) = AV.d (.sl (List.map ivD b))) ∧ ((AV.d (.int .i64 (↑a.length : Int)) = AV.d (.int .i64 (↑a.length : Int))) ∧ ((AV.d (.int .i64 (↑a.length : Int)) = AV.d (.int .i64 (↑a.length : Int))) ∧ (True)))))) (h := {}) (subs := []) (ws := []) (ρ := []) (by kernel_rfl) ?_
  repeat' (with_reducible first | exact True.intro | apply And.intro | (first | apply zA | apply zB | apply zC | apply zD | apply zE | apply zF | apply zG) <;> intro)
  all_goals (try simp only [List.length_map, AV.d.injEq, D.int.injEq, D.bool.injEq, D.str.injEq, D.sl.injEq, true_and, and_true, decide_eq_true_eq, decide_eq_false_iff_not, decide_eq_decide])
  all_goals (try simp only [List.length_map] at *)
  all_goals first | rfl | omega

set_option maxRecDepth 100000 in
set_option maxHeartbeats 1000000 in
theorem ivD_el (a b : List Iv) (h : a.length ≠ b.length) : FnOK Try.prog 82 ([.d (.sl (a.map ivD)), .d (.sl (b.map ivD))]) ([]) (.d (.bool false)) ([]) := by
  refine fnOK_wp (p := condP ((↑(List.map ivD a).length : Int) != (↑(List.map ivD b).length : Int)) ((AV.d (.bool false) = AV.d (.bool false)) ∧ (True)) ((AV.d (.sl (List.map ivD a)) = AV.d (.sl (List.map ivD a))) ∧ ((AV.d (.sl (List.map ivD b)) = AV.d (.sl (List.map ivD b))) ∧ ((AV.d (.int .i64 (0 : Int)) = AV.d (.int .i64 (0 : Int))) ∧ ((AV.d (.int .i64 (↑(List.map ivD a).length : Int)) = AV.d (.int .i64 (↑a.length : Int))) ∧ ((LoopsS Try.prog 0 (loopN Try.prog 82 0) (ivD_E a b 0) Exit.ret ivD_O 26) ∧ ((AV.d (.bool false) = AV.d (.bool false)) ∧ (True)))))))) (h := {}) (subs := [⟨[], [], ivD_E a b 0, .ret, ivD_O⟩]) (ws := []) (ρ := []) (by kernel_rfl) ?_
  simp only [List.length_map]
  refine condP_t (by simp; omega) ?_
  first | trivial | exact ⟨rfl, trivial⟩

set_option maxRecDepth 100000 in
set_option maxHeartbeats 1000000 in
theorem ivD_ey (a b : List Iv) (h : a.length = b.length) (hL : Loops Try.prog 0 (loopN Try.prog 82 0) ((ivD_E a b 0).as 26) (.exit 0) ((ivD_E a b a.length).as 26)) : FnOK Try.prog 82 ([.d (.sl (a.map ivD)), .d (.sl (b.map ivD))]) ([]) (.d (.bool true)) ([]) := by
  refine fnOK_wp (p := (D.bool ((↑(List.map ivD a).length : Int) != (↑(List.map ivD b).length : Int)) = D.bool false) ∧ ((AV.d (.sl (List.map ivD a)) = AV.d (.sl (List.map ivD a))) ∧ ((AV.d (.sl (List.map ivD b)) = AV.d (.sl (List.map ivD b))) ∧ ((AV.d (.int .i64 (0 : Int)) = AV.d (.int .i64 (0 : Int))) ∧ ((AV.d (.int .i64 (↑(List.map ivD a).length : Int)) = AV.d (.int .i64 (↑a.length : Int))) ∧ ((LoopsS Try.prog 0 (loopN Try.prog 82 0) (ivD_E a b 0) (Exit.exit 0) (ivD_E a b a.length) 26) ∧ ((AV.d (.bool true) = AV.d (.bool true)) ∧ (True)))))))) (h := {H := [(1, [(4, .val (.bool false))])]}) (subs := [⟨[], [], ivD_E a b 0, .exit 0, ivD_E a b a.length⟩]) (ws := []) (ρ := []) (by kernel_rfl) ?_
  simp only [List.length_map]
  repeat' (with_reducible first | exact True.intro | apply And.intro | (first | apply zA | apply zB | apply zC | apply zD | apply zE | apply zF | apply zG) <;> intro)
  all_goals first | exact hL | rfl | exact dno (by omega) | (exfalso; omega) | (refine congrArg D.bool ?_; simp; omega) | skip

set_option maxRecDepth 100000 in
set_option maxHeartbeats 1000000 in
theorem ivD_en (a b : List Iv) (h : a.length = b.length) (hL : Loops Try.prog 0 (loopN Try.prog 82 0) ((ivD_E a b 0).as 26) .ret (ivD_O.as 26)) : FnOK Try.prog 82 ([.d (.sl (a.map ivD)), .d (.sl (b.map ivD))]) ([]) (.d (.bool false)) ([]) := by
  refine fnOK_wp (p := (D.bool ((↑(List.map ivD a).length : Int) != (↑(List.map ivD b).length : Int)) = D.bool false) ∧ ((AV.d (.sl (List.map ivD a)) = AV.d (.sl (List.map ivD a))) ∧ ((AV.d (.sl (List.map ivD b)) = AV.d (.sl (List.map ivD b))) ∧ ((AV.d (.int .i64 (0 : Int)) = AV.d (.int .i64 (0 : Int))) ∧ ((AV.d (.int .i64 (↑(List.map ivD a).length : Int)) = AV.d (.int .i64 (↑a.length : Int))) ∧ ((LoopsS Try.prog 0 (loopN Try.prog 82 0) (ivD_E a b 0) Exit.ret ivD_O 26) ∧ ((AV.d (.bool false) = AV.d (.bool false)) ∧ (True)))))))) (h := {H := [(1, [(4, .val (.bool false))])]}) (subs := [⟨[], [], ivD_E a b 0, .ret, ivD_O⟩]) (ws := []) (ρ := []) (by kernel_rfl) ?_
  simp only [List.length_map]
  repeat' (with_reducible first | exact True.intro | apply And.intro | (first | apply zA | apply zB | apply zC | apply zD | apply zE | apply zF | apply zG) <;> intro)
  all_goals first | exact hL | rfl | exact dno (by omega) | (exfalso; omega) | (refine congrArg D.bool ?_; simp; omega) | skip

theorem ivD_equal (a b : List Iv) (hl : a.length < 1073741824) : FnOK Try.prog 82 [.d (.sl (a.map ivD)), .d (.sl (b.map ivD))] [] (.d (.bool (decide (a = b)))) [] := by
  by_cases h : a.length = b.length
  · rcases diff_or a b h with e | ⟨m, x, y, h1, h2, h3, h4⟩
    · rw [decide_eq_true e]
      refine ivD_ey a b h (loops_n (I := fun j => (ivD_E a b j).as 26) (by simp) a.length 0 (by omega) (fun j _ hj => ivD_er a b hl j a[j] (get_of hj) (by rw [← e]; exact get_of hj)) (ivD_eq' a b))
    · have hm := get_lt h1
      rw [decide_eq_false (by rintro rfl; rw [h1] at h2; cases h2; exact h3 rfl)]
      exact ivD_en a b h (loops_n (I := fun j => (ivD_E a b j).as 26) (by simp) m 0 (by omega) (fun j _ hj => ivD_er a b hl j (a[j]'(by omega)) (get_of _) (h4 j _ hj (get_of _))) (ivD_ee a b hl m x y h1 h2 h3))
  · rw [decide_eq_false (by rintro rfl; exact h rfl)]; exact ivD_el a b h


def ivD_IO (m : Int) : St := ⟨[(4, .d (.int .i64 m))], []⟩

def ivD_IF (g : Nat) (l : List Iv) (j : Nat) : St := ⟨[(0, .d (.sl (l.map ivD))), (1, .fn g []), (7, .d (.int .i64 l.length)), (8, .d (.int .i64 j))], []⟩
set_option maxRecDepth 100000 in
set_option maxHeartbeats 1000000 in
theorem ivD_irF (g : Nat) (l : List Iv) (hl : l.length < 1073741824) (j : Nat) (x : Iv) (hn : l[j]? = some x) (hx : FnOK Try.prog g [.d (ivD x)] [] (.d (.bool false)) []) : Runs Try.prog 0 (loopN Try.prog 85 0) (St.as (ivD_IF g l j) 19) (.normal) (St.as (ivD_IF g l (j+1)) 19) := by
  refine round_wp (p := condP (decide ((↑j : Int) < (↑l.length : Int))) (((0 : Int) ≤ (↑j : Int)) ∧ (((List.map ivD l)[(↑j : Int).toNat]? = some (D.agg [D.int .i64 x.fst, D.int .i64 x.snd])) ∧ ((FnOK Try.prog g [AV.d (.agg [D.int .i64 x.fst, D.int .i64 x.snd])] [] (AV.d (.bool false)) []) ∧ ((AV.d (.sl (List.map ivD l)) = AV.d (.sl (List.map ivD l))) ∧ ((AV.fn g [] = AV.fn g []) ∧ ((AV.d (.int .i64 (↑l.length : Int)) = AV.d (.int .i64 (↑l.length : Int))) ∧ ((AV.d (.int .i64 (IntKind.i64.wrap ((↑j : Int) + (1 : Int)))) = AV.d (.int .i64 (↑(j + 1) : Int))) ∧ (True)))))))) (False)) (h := {els := [(12, .el (ivD x)), (11, .call [] (.d (.bool false)) [])]}) (subs := []) (ws := []) (ρ := []) (by kernel_rfl) ?_
  have hj := get_lt hn
  have hi := inc_i64 (j := j) (by omega)
  rw [hi]
  refine condP_t (by rw [decide_eq_true_eq]; omega) ?_
  repeat' (with_reducible first | exact True.intro | apply And.intro | (first | apply zA | apply zB | apply zC | apply zD | apply zE | apply zF | apply zG) <;> intro)
  all_goals first | exact hx | exact el_map hn rfl | rfl | omega | skip

set_option maxRecDepth 100000 in
set_option maxHeartbeats 1000000 in
theorem ivD_ieF (g : Nat) (l : List Iv) (hl : l.length < 1073741824) (j : Nat) (x : Iv) (hn : l[j]? = some x) (hx : FnOK Try.prog g [.d (ivD x)] [] (.d (.bool true)) []) : Runs Try.prog 0 (loopN Try.prog 85 0) (St.as (ivD_IF g l j) 19) (.ret) (St.as (ivD_IO j) 19) := by
  refine round_wp (p := condP (decide ((↑j : Int) < (↑l.length : Int))) (((0 : Int) ≤ (↑j : Int)) ∧ (((List.map ivD l)[(↑j : Int).toNat]? = some (D.agg [D.int .i64 x.fst, D.int .i64 x.snd])) ∧ ((FnOK Try.prog g [AV.d (.agg [D.int .i64 x.fst, D.int .i64 x.snd])] [] (AV.d (.bool true)) []) ∧ ((AV.d (.int .i64 (↑j : Int)) = AV.d (.int .i64 (↑j : Int))) ∧ (True))))) (False)) (h := {els := [(12, .el (ivD x)), (11, .call [] (.d (.bool true)) [])]}) (subs := []) (ws := []) (ρ := []) (by kernel_rfl) ?_
  have hj := get_lt hn
  refine condP_t (by rw [decide_eq_true_eq]; omega) ?_
  repeat' (with_reducible first | exact True.intro | apply And.intro | (first | apply zA | apply zB | apply zC | apply zD | apply zE | apply zF | apply zG) <;> intro)
  all_goals first | exact hx | exact el_map hn rfl | rfl | omega | skip

set_option maxRecDepth 100000 in
set_option maxHeartbeats 1000000 in
theorem ivD_iqF (g : Nat) (l : List Iv) : Runs Try.prog 0 (loopN Try.prog 85 0) (St.as (ivD_IF g l l.length) 19) (.exit 0) (St.as (ivD_IF g l l.length) 19) := by
  refine round_wp (p := condP (decide ((↑l.length : Int) < (↑l.length : Int))) (False) ((AV.d (.sl (List.map ivD l)) = AV.d (.sl (List.map ivD l))) ∧ ((AV.fn g [] = AV.fn g []) ∧ ((AV.d (.int .i64 (↑l.length : Int)) = AV.d (.int .i64 (↑l.length : Int))) ∧ ((AV.d (.int .i64 (↑l.length : Int)) = AV.d (.int .i64 (↑l.length : Int))) ∧ (True)))))) (h := {}) (subs := []) (ws := []) (ρ := []) (by kernel_rfl) ?_
  repeat' (with_reducible first | exact True.intro | apply And.intro | (first | apply zA | apply zB | apply zC | apply zD | apply zE | apply zF | apply zG) <;> intro)
  all_goals (try simp only [List.length_map, AV.d.injEq, D.int.injEq, D.bool.injEq, D.str.injEq, D.sl.injEq, true_and, and_true, decide_eq_true_eq, decide_eq_false_iff_not, decide_eq_decide])
  all_goals (try simp only [List.length_map] at *)
  all_goals first | rfl | omega

set_option maxRecDepth 100000 in
set_option maxHeartbeats 1000000 in
theorem ivD_inF (g : Nat) (l : List Iv) (hL : Loops Try.prog 0 (loopN Try.prog 85 0) ((ivD_IF g l 0).as 19) (.exit 0) ((ivD_IF g l l.length).as 19)) : FnOK Try.prog 85 ([.d (.sl (l.map ivD)), .fn g []]) ([]) (.d (.int .i64 (-1))) ([]) := by
  refine fnOK_wp (p := (AV.d (.sl (List.map ivD l)) = AV.d (.sl (List.map ivD l))) ∧ ((AV.fn g [] = AV.fn g []) ∧ ((AV.d (.int .i64 (↑(List.map ivD l).length : Int)) = AV.d (.int .i64 (↑l.length : Int))) ∧ ((AV.d (.int .i64 (0 : Int)) = AV.d (.int .i64 (0 : Int))) ∧ ((LoopsS Try.prog 0 (loopN Try.prog 85 0) (ivD_IF g l 0) (Exit.exit 0) (ivD_IF g l l.length) 19) ∧ ((AV.d (.int .i64 (-1 : Int)) = AV.d (.int .i64 (-1 : Int))) ∧ (True))))))) (h := {}) (subs := [⟨[], [], ivD_IF g l 0, .exit 0, ivD_IF g l l.length⟩]) (ws := []) (ρ := []) (by kernel_rfl) ?_
  simp only [List.length_map]
  repeat' (with_reducible first | exact True.intro | apply And.intro | (first | apply zA | apply zB | apply zC | apply zD | apply zE | apply zF | apply zG) <;> intro)
  all_goals first | exact hL | rfl | skip

set_option maxRecDepth 100000 in
set_option maxHeartbeats 1000000 in
theorem ivD_iyF (g : Nat) (l : List Iv) (m : Nat) (hL : Loops Try.prog 0 (loopN Try.prog 85 0) ((ivD_IF g l 0).as 19) .ret ((ivD_IO m).as 19)) : FnOK Try.prog 85 ([.d (.sl (l.map ivD)), .fn g []]) ([]) (.d (.int .i64 m)) ([]) := by
  refine fnOK_wp (p := (AV.d (.sl (List.map ivD l)) = AV.d (.sl (List.map ivD l))) ∧ ((AV.fn g [] = AV.fn g []) ∧ ((AV.d (.int .i64 (↑(List.map ivD l).length : Int)) = AV.d (.int .i64 (↑l.length : Int))) ∧ ((AV.d (.int .i64 (0 : Int)) = AV.d (.int .i64 (0 : Int))) ∧ ((LoopsS Try.prog 0 (loopN Try.prog 85 0) (ivD_IF g l 0) Exit.ret (ivD_IO (↑m : Int)) 19) ∧ ((AV.d (.int .i64 (↑m : Int)) = AV.d (.int .i64 (↑m : Int))) ∧ (True))))))) (h := {}) (subs := [⟨[], [], ivD_IF g l 0, .ret, ivD_IO m⟩]) (ws := []) (ρ := []) (by kernel_rfl) ?_
  simp only [List.length_map]
  repeat' (with_reducible first | exact True.intro | apply And.intro | (first | apply zA | apply zB | apply zC | apply zD | apply zE | apply zF | apply zG) <;> intro)
  all_goals first | exact hL | rfl | skip

theorem ivD_indexF (g : Nat) (F : Iv → Bool) (l : List Iv) (hl : l.length < 1073741824) (hF : ∀ x ∈ l, FnOK Try.prog g [.d (ivD x)] [] (.d (.bool (F x))) []) : ∃ k : Int, decide (k ≥ 0) = l.any F ∧ FnOK Try.prog 85 [.d (.sl (l.map ivD)), .fn g []] [] (.d (.int .i64 k)) [] := by
  rcases all_or (fun x => F x = false) l with h | ⟨m, x, h1, h2, h3⟩
  · refine ⟨-1, ?_, ivD_inF g l (loops_n (I := fun j => (ivD_IF g l j).as 19) (by simp) l.length 0 (by omega) (fun j _ hj => ivD_irF g l hl j l[j] (get_of hj) (by have := hF _ (List.getElem_mem hj); rw [h _ (List.getElem_mem hj)] at this; exact this)) (ivD_iqF g l))⟩
    have : l.any F = false := by rw [List.any_eq_false]; intro x hx; rw [h x hx]; simp
    rw [this]; rfl
  · have hm := get_lt h1
    have h2 : F x = true := by cases hw : F x; exact absurd hw h2; rfl
    refine ⟨(m : Int), ?_, ivD_iyF g l m (loops_n (I := fun j => (ivD_IF g l j).as 19) (by simp) m 0 (by omega) (fun j _ hj => ivD_irF g l hl j (l[j]'(by omega)) (get_of _) (by have := hF (l[j]'(by omega)) (List.getElem_mem _); rw [h3 j _ hj (get_of _)] at this; exact this)) (ivD_ieF g l hl m x h1 (by have := hF _ (get_mem h1); rw [h2] at this; exact this)))⟩
    have : l.any F = true := List.any_eq_true.2 ⟨x, get_mem h1, h2⟩
    rw [this]; exact decide_eq_true (by omega)
set_option maxRecDepth 100000 in
set_option maxHeartbeats 1000000 in
theorem ivD_cfF (g : Nat) (l : List Iv) (k : Int) (h : FnOK Try.prog 85 [.d (.sl (l.map ivD)), .fn g []] [] (.d (.int .i64 k)) []) : FnOK Try.prog 71 ([.d (.sl (l.map ivD)), .fn g []]) ([]) (.d (.bool (decide (k ≥ 0)))) ([]) := by
  refine fnOK_wp (p := (FnOK Try.prog 85 [AV.d (.sl (List.map ivD l)), AV.fn g []] [] (AV.d (.int .i64 k)) []) ∧ ((AV.d (.bool (decide (k ≥ (0 : Int)))) = AV.d (.bool (decide (k ≥ (0 : Int))))) ∧ (True))) (h := {H := [(1, [(2, .call [] (.d (.int .i64 k)) [])])]}) (subs := []) (ws := []) (ρ := []) (by kernel_rfl) ?_
  exact ⟨h, rfl, trivial⟩

theorem ivD_containsF (g : Nat) (F : Iv → Bool) (l : List Iv) (hl : l.length < 1073741824) (hF : ∀ x ∈ l, FnOK Try.prog g [.d (ivD x)] [] (.d (.bool (F x))) []) : FnOK Try.prog 71 [.d (.sl (l.map ivD)), .fn g []] [] (.d (.bool (l.any F))) [] := by
  obtain ⟨k, h1, h2⟩ := ivD_indexF g F l hl hF
  rw [← h1]
  exact ivD_cfF g l k h2

def ivD_IM (g : Nat) (st : D) (l : List Iv) (j : Nat) : St := ⟨[(0, .d (.sl (l.map ivD))), (1, .meth g [.d st]), (7, .d (.int .i64 l.length)), (8, .d (.int .i64 j))], []⟩
set_option maxRecDepth 100000 in
set_option maxHeartbeats 1000000 in
theorem ivD_irM (g : Nat) (st : D) (l : List Iv) (hl : l.length < 1073741824) (j : Nat) (x : Iv) (hn : l[j]? = some x) (hx : FnOK Try.prog g [.d st, .d (ivD x)] [] (.d (.bool false)) []) : Runs Try.prog 0 (loopN Try.prog 85 0) (St.as (ivD_IM g st l j) 19) (.normal) (St.as (ivD_IM g st l (j+1)) 19) := by
  refine round_wp (p := condP (decide ((↑j : Int) < (↑l.length : Int))) (((0 : Int) ≤ (↑j : Int)) ∧ (((List.map ivD l)[(↑j : Int).toNat]? = some (D.agg [D.int .i64 x.fst, D.int .i64 x.snd])) ∧ ((FnOK Try.prog g [AV.d st, AV.d (.agg [D.int .i64 x.fst, D.int .i64 x.snd])] [] (AV.d (.bool false)) []) ∧ ((AV.d (.sl (List.map ivD l)) = AV.d (.sl (List.map ivD l))) ∧ ((AV.meth g [AV.d st] = AV.meth g [AV.d st]) ∧ ((AV.d (.int .i64 (↑l.length : Int)) = AV.d (.int .i64 (↑l.length : Int))) ∧ ((AV.d (.int .i64 (IntKind.i64.wrap ((↑j : Int) + (1 : Int)))) = AV.d (.int .i64 (↑(j + 1) : Int))) ∧ (True)))))))) (False)) (h := {els := [(12, .el (ivD x)), (11, .call [] (.d (.bool false)) [])]}) (subs := []) (ws := []) (ρ := []) (by kernel_rfl) ?_
  have hj := get_lt hn
  have hi := inc_i64 (j := j) (by omega)
  rw [hi]
  refine condP_t (by rw [decide_eq_true_eq]; omega) ?_
  repeat' (with_reducible first | exact True.intro | apply And.intro | (first | apply zA | apply zB | apply zC | apply zD | apply zE | apply zF | apply zG) <;> intro)
  all_goals first | exact hx | exact el_map hn rfl | rfl | omega | skip

set_option maxRecDepth 100000 in
set_option maxHeartbeats 1000000 in
theorem ivD_ieM (g : Nat) (st : D) (l : List Iv) (hl : l.length < 1073741824) (j : Nat) (x : Iv) (hn : l[j]? = some x) (hx : FnOK Try.prog g [.d st, .d (ivD x)] [] (.d (.bool true)) []) : Runs Try.prog 0 (loopN Try.prog 85 0) (St.as (ivD_IM g st l j) 19) (.ret) (St.as (ivD_IO j) 19) := by
  refine round_wp (p := condP (decide ((↑j : Int) < (↑l.length : Int))) (((0 : Int) ≤ (↑j : Int)) ∧ (((List.map ivD l)[(↑j : Int).toNat]? = some (D.agg [D.int .i64 x.fst, D.int .i64 x.snd])) ∧ ((FnOK Try.prog g [AV.d st, AV.d (.agg [D.int .i64 x.fst, D.int .i64 x.snd])] [] (AV.d (.bool true)) []) ∧ ((AV.d (.int .i64 (↑j : Int)) = AV.d (.int .i64 (↑j : Int))) ∧ (True))))) (False)) (h := {els := [(12, .el (ivD x)), (11, .call [] (.d (.bool true)) [])]}) (subs := []) (ws := []) (ρ := []) (by kernel_rfl) ?_
  have hj := get_lt hn
  refine condP_t (by rw [decide_eq_true_eq]; omega) ?_
  repeat' (with_reducible first | exact True.intro | apply And.intro | (first | apply zA | apply zB | apply zC | apply zD | apply zE | apply zF | apply zG) <;> intro)
  all_goals first | exact hx | exact el_map hn rfl | rfl | omega | skip

set_option maxRecDepth 100000 in
set_option maxHeartbeats 1000000 in
theorem ivD_iqM (g : Nat) (st : D) (l : List Iv) : Runs Try.prog 0 (loopN Try.prog 85 0) (St.as (ivD_IM g st l l.length) 19) (.exit 0) (St.as (ivD_IM g st l l.length) 19) := by
  refine round_wp (p := condP (decide ((↑l.length : Int) < (↑l.length : Int))) (False) ((AV.d (.sl (List.map ivD l)) = AV.d (.sl (List.map ivD l))) ∧ ((AV.meth g [AV.d st] = AV.meth g [AV.d st]) ∧ ((AV.d (.int .i64 (↑l.length : Int)) = AV.d (.int .i64 (↑l.length : Int))) ∧ ((AV.d (.int .i64 (↑l.length : Int)) = AV.d (.int .i64 (↑l.length : Int))) ∧ (True)))))) (h := {}) (subs := []) (ws := []) (ρ := []) (by kernel_rfl) ?_
  repeat' (with_reducible first | exact True.intro | apply And.intro | (first | apply zA | apply zB | apply zC | apply zD | apply zE | apply zF | apply zG) <;> intro)
  all_goals (try simp only [List.length_map, AV.d.injEq, D.int.injEq, D.bool.injEq, D.str.injEq, D.sl.injEq, true_and, and_true, decide_eq_true_eq, decide_eq_false_iff_not, decide_eq_decide])
  all_goals (try simp only [List.length_map] at *)
  all_goals first | rfl | omega

set_option maxRecDepth 100000 in
set_option maxHeartbeats 1000000 in
theorem ivD_inM (g : Nat) (st : D) (l : List Iv) (hL : Loops Try.prog 0 (loopN Try.prog 85 0) ((ivD_IM g st l 0).as 19) (.exit 0) ((ivD_IM g st l l.length).as 19)) : FnOK Try.prog 85 ([.d (.sl (l.map ivD)), .meth g [.d st]]) ([]) (.d (.int .i64 (-1))) ([]) := by
  refine fnOK_wp (p := (AV.d (.sl (List.map ivD l)) = AV.d (.sl (List.map ivD l))) ∧ ((AV.meth g [AV.d st] = AV.meth g [AV.d st]) ∧ ((AV.d (.int .i64 (↑(List.map ivD l).length : Int)) = AV.d (.int .i64 (↑l.length : Int))) ∧ ((AV.d (.int .i64 (0 : Int)) = AV.d (.int .i64 (0 : Int))) ∧ ((LoopsS Try.prog 0 (loopN Try.prog 85 0) (ivD_IM g st l 0) (Exit.exit 0) (ivD_IM g st l l.length) 19) ∧ ((AV.d (.int .i64 (-1 : Int)) = AV.d (.int .i64 (-1 : Int))) ∧ (True))))))) (h := {}) (subs := [⟨[], [], ivD_IM g st l 0, .exit 0, ivD_IM g st l l.length⟩]) (ws := []) (ρ := []) (by kernel_rfl) ?_
  simp only [List.length_map]
  repeat' (with_reducible first | exact True.intro | apply And.intro | (first | apply zA | apply zB | apply zC | apply zD | apply zE | apply zF | apply zG) <;> intro)
  all_goals first | exact hL | rfl | skip

set_option maxRecDepth 100000 in
set_option maxHeartbeats 1000000 in
theorem ivD_iyM (g : Nat) (st : D) (l : List Iv) (m : Nat) (hL : Loops Try.prog 0 (loopN Try.prog 85 0) ((ivD_IM g st l 0).as 19) .ret ((ivD_IO m).as 19)) : FnOK Try.prog 85 ([.d (.sl (l.map ivD)), .meth g [.d st]]) ([]) (.d (.int .i64 m)) ([]) := by
  refine fnOK_wp (p := (AV.d (.sl (List.map ivD l)) = AV.d (.sl (List.map ivD l))) ∧ ((AV.meth g [AV.d st] = AV.meth g [AV.d st]) ∧ ((AV.d (.int .i64 (↑(List.map ivD l).length : Int)) = AV.d (.int .i64 (↑l.length : Int))) ∧ ((AV.d (.int .i64 (0 : Int)) = AV.d (.int .i64 (0 : Int))) ∧ ((LoopsS Try.prog 0 (loopN Try.prog 85 0) (ivD_IM g st l 0) Exit.ret (ivD_IO (↑m : Int)) 19) ∧ ((AV.d (.int .i64 (↑m : Int)) = AV.d (.int .i64 (↑m : Int))) ∧ (True))))))) (h := {}) (subs := [⟨[], [], ivD_IM g st l 0, .ret, ivD_IO m⟩]) (ws := []) (ρ := []) (by kernel_rfl) ?_
  simp only [List.length_map]
  repeat' (with_reducible first | exact True.intro | apply And.intro | (first | apply zA | apply zB | apply zC | apply zD | apply zE | apply zF | apply zG) <;> intro)
  all_goals first | exact hL | rfl | skip

theorem ivD_indexM (g : Nat) (st : D) (F : Iv → Bool) (l : List Iv) (hl : l.length < 1073741824) (hF : ∀ x ∈ l, FnOK Try.prog g [.d st, .d (ivD x)] [] (.d (.bool (F x))) []) : ∃ k : Int, decide (k ≥ 0) = l.any F ∧ FnOK Try.prog 85 [.d (.sl (l.map ivD)), .meth g [.d st]] [] (.d (.int .i64 k)) [] := by
  rcases all_or (fun x => F x = false) l with h | ⟨m, x, h1, h2, h3⟩
  · refine ⟨-1, ?_, ivD_inM g st l (loops_n (I := fun j => (ivD_IM g st l j).as 19) (by simp) l.length 0 (by omega) (fun j _ hj => ivD_irM g st l hl j l[j] (get_of hj) (by have := hF _ (List.getElem_mem hj); rw [h _ (List.getElem_mem hj)] at this; exact this)) (ivD_iqM g st l))⟩
    have : l.any F = false := by rw [List.any_eq_false]; intro x hx; rw [h x hx]; simp
    rw [this]; rfl
  · have hm := get_lt h1
    have h2 : F x = true := by cases hw : F x; exact absurd hw h2; rfl
    refine ⟨(m : Int), ?_, ivD_iyM g st l m (loops_n (I := fun j => (ivD_IM g st l j).as 19) (by simp) m 0 (by omega) (fun j _ hj => ivD_irM g st l hl j (l[j]'(by omega)) (get_of _) (by have := hF (l[j]'(by omega)) (List.getElem_mem _); rw [h3 j _ hj (get_of _)] at this; exact this)) (ivD_ieM g st l hl m x h1 (by have := hF _ (get_mem h1); rw [h2] at this; exact this)))⟩
    have : l.any F = true := List.any_eq_true.2 ⟨x, get_mem h1, h2⟩
    rw [this]; exact decide_eq_true (by omega)
set_option maxRecDepth 100000 in
set_option maxHeartbeats 1000000 in
theorem ivD_cfM (g : Nat) (st : D) (l : List Iv) (k : Int) (h : FnOK Try.prog 85 [.d (.sl (l.map ivD)), .meth g [.d st]] [] (.d (.int .i64 k)) []) : FnOK Try.prog 71 ([.d (.sl (l.map ivD)), .meth g [.d st]]) ([]) (.d (.bool (decide (k ≥ 0)))) ([]) := by
  refine fnOK_wp (p := (FnOK Try.prog 85 [AV.d (.sl (List.map ivD l)), AV.meth g [AV.d st]] [] (AV.d (.int .i64 k)) []) ∧ ((AV.d (.bool (decide (k ≥ (0 : Int)))) = AV.d (.bool (decide (k ≥ (0 : Int))))) ∧ (True))) (h := {H := [(1, [(2, .call [] (.d (.int .i64 k)) [])])]}) (subs := []) (ws := []) (ρ := []) (by kernel_rfl) ?_
  exact ⟨h, rfl, trivial⟩

theorem ivD_containsM (g : Nat) (st : D) (F : Iv → Bool) (l : List Iv) (hl : l.length < 1073741824) (hF : ∀ x ∈ l, FnOK Try.prog g [.d st, .d (ivD x)] [] (.d (.bool (F x))) []) : FnOK Try.prog 71 [.d (.sl (l.map ivD)), .meth g [.d st]] [] (.d (.bool (l.any F))) [] := by
  obtain ⟨k, h1, h2⟩ := ivD_indexM g st F l hl hF
  rw [← h1]
  exact ivD_cfM g st l k h2


set_option maxRecDepth 100000 in
set_option maxHeartbeats 1000000 in
theorem end42 (n : Int) (k1 : True) (k2 : True) : FnOK Try.prog 83 ([.d (.int .i64 n)]) ([]) (.d (.bool (endB n))) ([]) := by
  refine fnOK_wp (p := condP (decide (n ≥ (0 : Int))) ((D.bool (decide (n ≥ (0 : Int))) = D.bool true) ∧ ((AV.d (.bool (decide (n ≤ (4611686018427387903 : Int)))) = AV.d (.bool (endB n))) ∧ (True))) ((D.bool (decide (n ≥ (0 : Int))) = D.bool false) ∧ ((AV.d (.bool false) = AV.d (.bool (endB n))) ∧ (True)))) (h := {}) (subs := []) (ws := []) (ρ := []) (by kernel_rfl) ?_
  unfold endB
  repeat' (with_reducible first | exact True.intro | apply And.intro | (first | apply zA | apply zB | apply zC | apply zD | apply zE | apply zF | apply zG) <;> intro)
  all_goals first | rfl | exact dyes ‹_› | exact dno ‹_› | (refine congrArg (fun z => AV.d (.bool z)) ?_; rw [decide_eq_true (p := n ≥ 0) (by assumption), Bool.true_and]; done) | (refine congrArg (fun z => AV.d (.bool z)) ?_; rw [decide_eq_false (p := n ≥ 0) (by assumption)]; rfl) | skip

def gEnd : List D → Option (AV × List Ob) := fun | [.int _ n] => some (.d (.bool (endB n)), []) | _ => none
set_option maxRecDepth 100000 in
set_option maxHeartbeats 1000000 in
theorem may30 (x : Iv) : FnOK Try.prog 65 ([.d (ivD x)]) ([]) (.d (.bool (mayB x))) ([]) := by
  refine fnOK_wp (p := condP (endB x.fst) ((FnOK Try.prog 83 [AV.d (.int .i64 x.fst)] [] (AV.d (.bool (endB x.fst))) []) ∧ ((D.bool (endB x.fst) = D.bool true) ∧ ((FnOK Try.prog 83 [AV.d (.int .i64 x.snd)] [] (AV.d (.bool (endB x.snd))) []) ∧ ((AV.d (.bool (endB x.snd)) = AV.d (.bool (mayB x))) ∧ (True))))) ((FnOK Try.prog 83 [AV.d (.int .i64 x.fst)] [] (AV.d (.bool (endB x.fst))) []) ∧ ((D.bool (endB x.fst) = D.bool false) ∧ ((AV.d (.bool false) = AV.d (.bool (mayB x))) ∧ (True))))) (h := {G := [(83, gEnd)]}) (subs := []) (ws := []) (ρ := []) (by kernel_rfl) ?_
  have k1 := end42 x.1 trivial trivial
  have k2 := end42 x.2 trivial trivial
  unfold mayB
  repeat' (with_reducible first | exact True.intro | apply And.intro | (first | apply zA | apply zB | apply zC | apply zD | apply zE | apply zF | apply zG) <;> intro)
  all_goals first | exact k1 | exact k2 | rfl | (refine congrArg (fun z => AV.d (.bool z)) ?_; simp_all; done) | (refine congrArg D.bool ?_; simp_all; done) | skip

set_option maxRecDepth 100000 in
set_option maxHeartbeats 1000000 in
theorem none31 (x : Iv) : FnOK Try.prog 66 ([.d (ivD x)]) ([]) (.d (.bool (noneB x))) ([]) := by
  refine fnOK_wp (p := (AV.d (.bool (decide (x.snd ≤ x.fst))) = AV.d (.bool (noneB x))) ∧ (True)) (h := {}) (subs := []) (ws := []) (ρ := []) (by kernel_rfl) ?_
  exact ⟨rfl, trivial⟩

set_option maxRecDepth 100000 in
set_option maxHeartbeats 1000000 in
theorem chk39 (x : Iv) : FnOK Try.prog 84 ([.d (ivD x)]) ([]) (.d (.bool (!mayB x))) ([]) := by
  refine fnOK_wp (p := (FnOK Try.prog 65 [AV.d (.agg [D.int .i64 x.fst, D.int .i64 x.snd])] [] (AV.d (.bool (mayB x))) []) ∧ ((AV.d (.bool !mayB x) = AV.d (.bool !mayB x)) ∧ (True))) (h := {G := [(65, gAns (.d (.bool (mayB x))))]}) (subs := []) (ws := []) (ρ := []) (by kernel_rfl) ?_
  have k1 := may30 x
  have k2 := k1
  repeat' (with_reducible first | exact True.intro | apply And.intro | (first | apply zA | apply zB | apply zC | apply zD | apply zE | apply zF | apply zG) <;> intro)
  all_goals first | exact k1 | exact k2 | rfl | (refine congrArg (fun z => AV.d (.bool z)) ?_; simp_all; done) | (refine congrArg D.bool ?_; simp_all; done) | skip

/-! ### Check -/
def I19 (s : List Iv) (j : Nat) : St := ⟨[(0, .d (.sl (s.map ivD))), (3, .d (.int .i64 j))], []⟩
def O19 (n : Int) : St := ⟨[(2, .d (.int .i64 n))], []⟩
set_option maxRecDepth 100000 in
set_option maxHeartbeats 1000000 in
theorem r19 (s : List Iv) (hl : s.length < 1000000) (j : Nat) (x y : Iv) (hx : s[j]? = some x) (hy : s[j + 1]? = some y) (h : ¬y.1 ≤ x.2) : Runs Try.prog 0 (loopN Try.prog 67 0) (St.as (I19 s (j+1)) 28) (.normal) (St.as (I19 s (j+1+1)) 28) := by
  refine round_wp (p := condP (decide ((↑(j + 1) : Int) < (↑(List.map ivD s).length : Int))) (((0 : Int) ≤ (↑(j + 1) : Int)) ∧ (((List.map ivD s)[(↑(j + 1) : Int).toNat]? = some (D.agg [D.int .i64 y.fst, D.int .i64 y.snd])) ∧ (((0 : Int) ≤ IntKind.i64.wrap ((↑(j + 1) : Int) - (1 : Int))) ∧ (((List.map ivD s)[(IntKind.i64.wrap ((↑(j + 1) : Int) - (1 : Int))).toNat]? = some (D.agg [D.int .i64 x.fst, D.int .i64 x.snd])) ∧ ((D.bool (decide (y.fst ≤ x.snd)) = D.bool false) ∧ ((AV.d (.sl (List.map ivD s)) = AV.d (.sl (List.map ivD s))) ∧ ((AV.d (.int .i64 (IntKind.i64.wrap ((↑(j + 1) : Int) + (1 : Int)))) = AV.d (.int .i64 (↑(j + 1 + 1) : Int))) ∧ (True)))))))) (False)) (h := {els := [(16, .el (ivD y)), (21, .el (ivD x))], H := [(8, [(11, .val (.bool false))])]}) (subs := []) (ws := []) (ρ := []) (by kernel_rfl) ?_
  have hj := get_lt hy
  have hi : IntKind.i64.wrap (((j + 1 : Nat) : Int) + 1) = ((j + 1 + 1 : Nat) : Int) := inc_i64 (by omega)
  have hw : IntKind.i64.wrap (((j + 1 : Nat) : Int) - 1) = (j : Int) := by rw [IntKind.wrap_i64]; omega
  simp only [hi, hw, List.length_map]
  refine condP_t (by rw [decide_eq_true_eq]; omega) ?_
  repeat' (with_reducible first | exact True.intro | apply And.intro | (first | apply zA | apply zB | apply zC | apply zD | apply zE | apply zF | apply zG) <;> intro)
  all_goals first | exact el_map hx rfl | exact el_map hy rfl | rfl | omega | exact dyes (by omega) | exact dno (by omega) | (exfalso; omega) | skip

set_option maxRecDepth 100000 in
set_option maxHeartbeats 1000000 in
theorem e19 (s : List Iv) (hl : s.length < 1000000) (j : Nat) (x y : Iv) (hx : s[j]? = some x) (hy : s[j + 1]? = some y) (h : y.1 ≤ x.2) : Runs Try.prog 0 (loopN Try.prog 67 0) (St.as (I19 s (j+1)) 28) (.ret) (St.as (O19 10) 28) := by
  refine round_wp (p := condP (decide ((↑(j + 1) : Int) < (↑(List.map ivD s).length : Int))) (((0 : Int) ≤ (↑(j + 1) : Int)) ∧ (((List.map ivD s)[(↑(j + 1) : Int).toNat]? = some (D.agg [D.int .i64 y.fst, D.int .i64 y.snd])) ∧ (((0 : Int) ≤ IntKind.i64.wrap ((↑(j + 1) : Int) - (1 : Int))) ∧ (((List.map ivD s)[(IntKind.i64.wrap ((↑(j + 1) : Int) - (1 : Int))).toNat]? = some (D.agg [D.int .i64 x.fst, D.int .i64 x.snd])) ∧ ((D.bool (decide (y.fst ≤ x.snd)) = D.bool true) ∧ ((AV.d (.int .i64 (10 : Int)) = AV.d (.int .i64 (10 : Int))) ∧ (True))))))) (False)) (h := {els := [(16, .el (ivD y)), (21, .el (ivD x))], H := [(8, [(11, .val (.bool true))])]}) (subs := []) (ws := []) (ρ := []) (by kernel_rfl) ?_
  have hj := get_lt hy
  have hi : IntKind.i64.wrap (((j + 1 : Nat) : Int) + 1) = ((j + 1 + 1 : Nat) : Int) := inc_i64 (by omega)
  have hw : IntKind.i64.wrap (((j + 1 : Nat) : Int) - 1) = (j : Int) := by rw [IntKind.wrap_i64]; omega
  simp only [hi, hw, List.length_map]
  refine condP_t (by rw [decide_eq_true_eq]; omega) ?_
  repeat' (with_reducible first | exact True.intro | apply And.intro | (first | apply zA | apply zB | apply zC | apply zD | apply zE | apply zF | apply zG) <;> intro)
  all_goals first | exact el_map hx rfl | exact el_map hy rfl | rfl | omega | exact dyes (by omega) | exact dno (by omega) | (exfalso; omega) | skip

set_option maxRecDepth 100000 in
set_option maxHeartbeats 1000000 in
theorem q19 (s : List Iv) (j : Nat) (hj : s.length ≤ j) : Runs Try.prog 0 (loopN Try.prog 67 0) (St.as (I19 s j) 28) (.exit 1) (St.as (I19 s j) 28) := by
  refine round_wp (p := condP (decide ((↑j : Int) < (↑(List.map ivD s).length : Int))) (False) ((AV.d (.sl (List.map ivD s)) = AV.d (.sl (List.map ivD s))) ∧ ((AV.d (.int .i64 (↑j : Int)) = AV.d (.int .i64 (↑j : Int))) ∧ (True)))) (h := {}) (subs := []) (ws := []) (ρ := []) (by kernel_rfl) ?_
  repeat' (with_reducible first | exact True.intro | apply And.intro | (first | apply zA | apply zB | apply zC | apply zD | apply zE | apply zF | apply zG) <;> intro)
  all_goals (try simp only [List.length_map, AV.d.injEq, D.int.injEq, D.bool.injEq, D.str.injEq, D.sl.injEq, true_and, and_true, decide_eq_true_eq, decide_eq_false_iff_not, decide_eq_decide])
  all_goals (try simp only [List.length_map] at *)
  all_goals first | rfl | omega

theorem l19 (s : List Iv) (hl : s.length < 1000000) : ∀ (m : List Iv) (j : Nat), s.drop j = m →
    (ordB m = false → ∃ k, Loops Try.prog 0 (loopN Try.prog 67 0) ((I19 s (j+1)).as 28) (.exit 1) ((I19 s k).as 28)) ∧
    (ordB m = true → Loops Try.prog 0 (loopN Try.prog 67 0) ((I19 s (j+1)).as 28) .ret ((O19 10).as 28))
  | [], j, hd => by
    have : s.length ≤ j := List.drop_eq_nil_iff.1 hd
    exact ⟨fun _ => ⟨_, .out (q19 s (j+1) (by omega)) (by simp)⟩, fun h => by cases h⟩
  | [x], j, hd => by
    have h1 : (s.drop j).length = 1 := by rw [hd]; rfl
    rw [List.length_drop] at h1
    exact ⟨fun _ => ⟨_, .out (q19 s (j+1) (by omega)) (by simp)⟩, fun h => by cases h⟩
  | x :: y :: r, j, hd => by
    have hx : s[j]? = some x := by
      have : (s.drop j)[0]? = some x := by rw [hd]; rfl
      rw [List.getElem?_drop] at this; exact this
    have hy : s[j + 1]? = some y := by
      have : (s.drop j)[1]? = some y := by rw [hd]; rfl
      rw [List.getElem?_drop] at this; exact this
    have hd2 : s.drop (j + 1) = y :: r := by rw [← List.drop_drop, hd]; rfl
    obtain ⟨i1, i2⟩ := l19 s hl (y :: r) (j + 1) hd2
    show ((decide (y.1 ≤ x.2) || ordB (y :: r)) = false → _) ∧ ((decide (y.1 ≤ x.2) || ordB (y :: r)) = true → _)
    by_cases h : y.1 ≤ x.2
    · rw [decide_eq_true h]
      exact ⟨fun h => by simp at h, fun _ => .out (e19 s hl j x y hx hy h) (by simp)⟩
    · rw [decide_eq_false h, Bool.false_or]
      refine ⟨fun g => ?_, fun g => ?_⟩
      · obtain ⟨k, hk⟩ := i1 g
        exact ⟨k, .next (r19 s hl j x y hx hy h) hk⟩
      · exact .next (r19 s hl j x y hx hy h) (i2 g)
set_option maxRecDepth 100000 in
set_option maxHeartbeats 1000000 in
theorem chk19a (s : List Iv) (k2 : True) (hL : True) (k1 : FnOK Try.prog 71 [.d (.sl (s.map ivD)), .fn 84 []] [] (.d (.bool true)) []) : FnOK Try.prog 67 ([.d (.sl (s.map ivD))]) ([]) (.d (.int .i64 8)) ([]) := by
  refine fnOK_wp (p := (FnOK Try.prog 71 [AV.d (.sl (List.map ivD s)), AV.fn 84 []] [] (AV.d (.bool true)) []) ∧ ((AV.d (.int .i64 (8 : Int)) = AV.d (.int .i64 (8 : Int))) ∧ (True))) (h := {H := [(1, [(1, .call [] (.d (.bool true)) [])])]}) (subs := []) (ws := []) (ρ := []) (by kernel_rfl) ?_
  repeat' (with_reducible first | exact True.intro | apply And.intro | (first | apply zA | apply zB | apply zC | apply zD | apply zE | apply zF | apply zG) <;> intro)
  all_goals first | exact k1 | exact k2 | exact hL | rfl | skip

set_option maxRecDepth 100000 in
set_option maxHeartbeats 1000000 in
theorem chk19b (s : List Iv) (hL : True) (k1 : FnOK Try.prog 71 [.d (.sl (s.map ivD)), .fn 84 []] [] (.d (.bool false)) []) (k2 : FnOK Try.prog 71 [.d (.sl (s.map ivD)), .fn 66 []] [] (.d (.bool true)) []) : FnOK Try.prog 67 ([.d (.sl (s.map ivD))]) ([]) (.d (.int .i64 4)) ([]) := by
  refine fnOK_wp (p := (FnOK Try.prog 71 [AV.d (.sl (List.map ivD s)), AV.fn 84 []] [] (AV.d (.bool false)) []) ∧ ((FnOK Try.prog 71 [AV.d (.sl (List.map ivD s)), AV.fn 66 []] [] (AV.d (.bool true)) []) ∧ ((AV.d (.int .i64 (4 : Int)) = AV.d (.int .i64 (4 : Int))) ∧ (True)))) (h := {H := [(1, [(1, .call [] (.d (.bool false)) [])]), (3, [(1, .call [] (.d (.bool true)) [])])]}) (subs := []) (ws := []) (ρ := []) (by kernel_rfl) ?_
  repeat' (with_reducible first | exact True.intro | apply And.intro | (first | apply zA | apply zB | apply zC | apply zD | apply zE | apply zF | apply zG) <;> intro)
  all_goals first | exact k1 | exact k2 | exact hL | rfl | skip

set_option maxRecDepth 100000 in
set_option maxHeartbeats 1000000 in
theorem chk19c (s : List Iv) (k1 : FnOK Try.prog 71 [.d (.sl (s.map ivD)), .fn 84 []] [] (.d (.bool false)) []) (k2 : FnOK Try.prog 71 [.d (.sl (s.map ivD)), .fn 66 []] [] (.d (.bool false)) []) (hL : Loops Try.prog 0 (loopN Try.prog 67 0) ((I19 s (0+1)).as 28) .ret ((O19 10).as 28)) : FnOK Try.prog 67 ([.d (.sl (s.map ivD))]) ([]) (.d (.int .i64 10)) ([]) := by
  refine fnOK_wp (p := (FnOK Try.prog 71 [AV.d (.sl (List.map ivD s)), AV.fn 84 []] [] (AV.d (.bool false)) []) ∧ ((FnOK Try.prog 71 [AV.d (.sl (List.map ivD s)), AV.fn 66 []] [] (AV.d (.bool false)) []) ∧ ((AV.d (.sl (List.map ivD s)) = AV.d (.sl (List.map ivD s))) ∧ ((AV.d (.int .i64 (1 : Int)) = AV.d (.int .i64 (1 : Int))) ∧ ((LoopsS Try.prog 0 (loopN Try.prog 67 0) (I19 s (0 + 1)) Exit.ret (O19 (10 : Int)) 28) ∧ ((AV.d (.int .i64 (10 : Int)) = AV.d (.int .i64 (10 : Int))) ∧ (True))))))) (h := {H := [(1, [(1, .call [] (.d (.bool false)) [])]), (3, [(1, .call [] (.d (.bool false)) [])])]}) (subs := [⟨[], [], I19 s (0+1), .ret, O19 10⟩]) (ws := []) (ρ := []) (by kernel_rfl) ?_
  repeat' (with_reducible first | exact True.intro | apply And.intro | (first | apply zA | apply zB | apply zC | apply zD | apply zE | apply zF | apply zG) <;> intro)
  all_goals first | exact k1 | exact k2 | exact hL | rfl | skip

set_option maxRecDepth 100000 in
set_option maxHeartbeats 1000000 in
theorem chk19d (s : List Iv) (k : Nat) (k1 : FnOK Try.prog 71 [.d (.sl (s.map ivD)), .fn 84 []] [] (.d (.bool false)) []) (k2 : FnOK Try.prog 71 [.d (.sl (s.map ivD)), .fn 66 []] [] (.d (.bool false)) []) (hL : Loops Try.prog 0 (loopN Try.prog 67 0) ((I19 s (0+1)).as 28) (.exit 1) ((I19 s k).as 28)) : FnOK Try.prog 67 ([.d (.sl (s.map ivD))]) ([]) (.d (.int .i64 0)) ([]) := by
  refine fnOK_wp (p := (FnOK Try.prog 71 [AV.d (.sl (List.map ivD s)), AV.fn 84 []] [] (AV.d (.bool false)) []) ∧ ((FnOK Try.prog 71 [AV.d (.sl (List.map ivD s)), AV.fn 66 []] [] (AV.d (.bool false)) []) ∧ ((AV.d (.sl (List.map ivD s)) = AV.d (.sl (List.map ivD s))) ∧ ((AV.d (.int .i64 (1 : Int)) = AV.d (.int .i64 (1 : Int))) ∧ ((LoopsS Try.prog 0 (loopN Try.prog 67 0) (I19 s (0 + 1)) (Exit.exit 1) (I19 s k) 28) ∧ ((AV.d (.int .i64 (0 : Int)) = AV.d (.int .i64 (0 : Int))) ∧ (True))))))) (h := {H := [(1, [(1, .call [] (.d (.bool false)) [])]), (3, [(1, .call [] (.d (.bool false)) [])])]}) (subs := [⟨[], [], I19 s (0+1), .exit 1, I19 s k⟩]) (ws := []) (ρ := []) (by kernel_rfl) ?_
  repeat' (with_reducible first | exact True.intro | apply And.intro | (first | apply zA | apply zB | apply zC | apply zD | apply zE | apply zF | apply zG) <;> intro)
  all_goals first | exact k1 | exact k2 | exact hL | rfl | skip

theorem chk19 (s : List Iv) (hl : s.length < 1000000) : FnOK Try.prog 67 [.d (.sl (s.map ivD))] [] (.d (.int .i64 (iChk s))) [] := by
  have k1 := ivD_containsF 84 (fun x => !mayB x) s (by omega) (fun x _ => chk39 x)
  have k2 := ivD_containsF 66 noneB s (by omega) (fun x _ => none31 x)
  obtain ⟨i1, i2⟩ := l19 s hl s 0 rfl
  unfold iChk
  cases h1 : s.any (fun x => !mayB x)
  · rw [h1] at k1
    rw [if_neg (by simp)]
    cases h2 : s.any noneB
    · rw [h2] at k2
      rw [if_neg (by simp)]
      cases h3 : ordB s
      · rw [if_neg (by simp)]
        obtain ⟨k, hk⟩ := i1 h3
        exact chk19d s k k1 k2 hk
      · rw [if_pos rfl]
        exact chk19c s k1 k2 (i2 h3)
    · rw [h2] at k2
      rw [if_pos rfl]
      exact chk19b s trivial k1 k2
  · rw [h1] at k1
    rw [if_pos rfl]
    exact chk19a s trivial trivial k1
end Go.Proofs.Ytfllhedkgeljaaa.C06
