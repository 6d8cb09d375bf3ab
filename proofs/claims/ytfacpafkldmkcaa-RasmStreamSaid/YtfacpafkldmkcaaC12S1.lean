/-
laws 12: small ones; the library's functions on parts.
-/
import Derived.Test.YtfacpafkldmkcaaC12S0
import Derived.Test.YtfacpafkldmkcaaProg
import Derived.KernelRfl
set_option linter.unusedSimpArgs false
set_option linter.unusedVariables false
namespace Go.Proofs.Ytfacpafkldmkcaa.C12
open Sx Go.RowKit

def gAns (a : AV) : List D → Option (AV × List Ob) := fun _ => some (a, [])
def gYes : List D → Option (AV × List Ob) := fun _ => some (.d (.bool true), [])
def gId : List D → Option (AV × List Ob) := fun | [d] => some (.d d, []) | _ => none
theorem ptD_ne {x y : Pt} (h : x ≠ y) : (x.a == y.a && (x.d == y.d && true)) = false := by
  obtain ⟨a, b⟩ := x
  obtain ⟨a', b'⟩ := y
  cases hq : (a == a' && (b == b' && true))
  · rfl
  · simp at hq
    exact absurd (by rw [hq.1, hq.2]) h

theorem ptD_sz (l : List Pt) : ∀ e ∈ l.map ptD, e.cells.length = 2 := by
  intro e he
  obtain ⟨x, -, rfl⟩ := List.mem_map.1 he
  rfl
set_option maxRecDepth 100000 in
set_option maxHeartbeats 1000000 in
theorem ptD_cloneP (l : List Pt) (hl : l.length < 1073741824) (hne : l.map ptD ≠ []) : FnOK Try.prog 40 ([.d (.sl (l.map ptD))]) ([]) (.own 0 2) ([.row 2 (l.map ptD)]) := by
  refine fnOK_wp (p := (D.bool false = D.bool false) ∧ ((List.map ptD l ≠ []) ∧ ((((0 : Nat) + (List.map ptD l).length) * (24 : Nat) ≤ (140737488355328 : Nat)) ∧ ((∀ (e : D), e ∈ List.map ptD l → e.cells.length = (2 : Nat)) ∧ ((AV.own (1056 : Nat) (2 : Nat) = AV.own (1056 : Nat) (2 : Nat)) ∧ ((Ob.row (2 : Nat) ([] ++ List.map ptD l) = Ob.row (2 : Nat) (List.map ptD l)) ∧ (True))))))) (h := {H := [(1, [(1, .val (.bool false))])]}) (subs := []) (ws := []) (ρ := []) (by kernel_rfl) ?_
  repeat' (first | with_reducible exact True.intro | with_reducible refine And.intro ?_ ?_ | with_reducible refine condP_dec (fun _ => ?_) (fun _ => ?_) | with_reducible refine condP_eq (fun _ => ?_) (fun _ => ?_) | with_reducible refine condP_ne (fun _ => ?_) (fun _ => ?_) | with_reducible refine condP_not (condP_dec (fun _ => ?_) (fun _ => ?_)) | with_reducible refine condP_not (condP_eq (fun _ => ?_) (fun _ => ?_)) | with_reducible refine condP_not (condP_intro (fun _ => ?_) (fun _ => ?_)) | with_reducible refine condP_intro (fun _ => ?_) (fun _ => ?_))
  all_goals first | exact hne | rfl | (simp; omega) | exact ptD_sz _ | skip

set_option maxRecDepth 100000 in
set_option maxHeartbeats 1000000 in
theorem ptD_cloneZ (a : Option Addr) (c : Nat) : FnOK Try.prog 40 ([.raw (.slice a 0 c)]) ([]) (.own 0 2) ([.row 2 []]) := by
  refine fnOK_wp (p := condP (a.isNone) ((AV.own (900 : Nat) (2 : Nat) = AV.own (900 : Nat) (2 : Nat)) ∧ ((Ob.row (2 : Nat) [] = Ob.row (2 : Nat) []) ∧ (True))) (((0 : Nat) ≤ (140737488355328 : Nat)) ∧ ((∀ (e : D), e ∈ [] → e.cells.length = (2 : Nat)) ∧ ((AV.own (1056 : Nat) (2 : Nat) = AV.own (1056 : Nat) (2 : Nat)) ∧ ((Ob.row (2 : Nat) [] = Ob.row (2 : Nat) []) ∧ (True)))))) (h := {}) (subs := []) (ws := []) (ρ := []) (by kernel_rfl) ?_
  repeat' (first | with_reducible exact True.intro | with_reducible refine And.intro ?_ ?_ | with_reducible refine condP_dec (fun _ => ?_) (fun _ => ?_) | with_reducible refine condP_eq (fun _ => ?_) (fun _ => ?_) | with_reducible refine condP_ne (fun _ => ?_) (fun _ => ?_) | with_reducible refine condP_not (condP_dec (fun _ => ?_) (fun _ => ?_)) | with_reducible refine condP_not (condP_eq (fun _ => ?_) (fun _ => ?_)) | with_reducible refine condP_not (condP_intro (fun _ => ?_) (fun _ => ?_)) | with_reducible refine condP_intro (fun _ => ?_) (fun _ => ?_))
  all_goals first | rfl | (simp; done) | (intro e he; simp at he; done) | skip

theorem ptD_clone (l : List Pt) (hl : l.length < 1073741824) : FnOK Try.prog 40 [.d (.sl (l.map ptD))] [] (.own 0 2) [.row 2 (l.map ptD)] := by
  cases l with
  | nil => exact fnOK_nil fun a c => ptD_cloneZ a c
  | cons x r => exact ptD_cloneP (x :: r) hl (by simp)
set_option maxRecDepth 100000 in
set_option maxHeartbeats 1000000 in
theorem ptD_cloneQ (l : List Pt) (hl : l.length < 1073741824) (hne : l.map ptD ≠ []) : FnOK Try.prog 40 ([.own 0 2]) ([.row 2 (l.map ptD)]) (.own 1 2) ([.row 2 (l.map ptD), .row 2 (l.map ptD)]) := by
  refine fnOK_wp (p := (D.bool false = D.bool false) ∧ ((List.map ptD l ≠ []) ∧ ((((0 : Nat) + (List.map ptD l).length) * (24 : Nat) ≤ (140737488355328 : Nat)) ∧ ((∀ (e : D), e ∈ List.map ptD l → e.cells.length = (2 : Nat)) ∧ ((AV.own (1056 : Nat) (2 : Nat) = AV.own (1056 : Nat) (2 : Nat)) ∧ ((Ob.row (2 : Nat) (List.map ptD l) = Ob.row (2 : Nat) (List.map ptD l)) ∧ ((Ob.row (2 : Nat) ([] ++ List.map ptD l) = Ob.row (2 : Nat) (List.map ptD l)) ∧ (True)))))))) (h := {H := [(1, [(1, .val (.bool false))])]}) (subs := []) (ws := []) (ρ := []) (by kernel_rfl) ?_
  repeat' (first | with_reducible exact True.intro | with_reducible refine And.intro ?_ ?_ | with_reducible refine condP_dec (fun _ => ?_) (fun _ => ?_) | with_reducible refine condP_eq (fun _ => ?_) (fun _ => ?_) | with_reducible refine condP_ne (fun _ => ?_) (fun _ => ?_) | with_reducible refine condP_not (condP_dec (fun _ => ?_) (fun _ => ?_)) | with_reducible refine condP_not (condP_eq (fun _ => ?_) (fun _ => ?_)) | with_reducible refine condP_not (condP_intro (fun _ => ?_) (fun _ => ?_)) | with_reducible refine condP_intro (fun _ => ?_) (fun _ => ?_))
  all_goals first | exact hne | rfl | (simp; omega) | exact ptD_sz _ | skip

set_option maxRecDepth 100000 in
set_option maxHeartbeats 1000000 in
theorem ptD_cloneW (a : Option Addr) (c : Nat) : FnOK Try.prog 40 ([.raw (.slice a 0 c)]) ([.row 2 []]) (.own 1 2) ([.row 2 [], .row 2 []]) := by
  refine fnOK_wp (p := condP (a.isNone) ((AV.own (901 : Nat) (2 : Nat) = AV.own (901 : Nat) (2 : Nat)) ∧ ((Ob.row (2 : Nat) [] = Ob.row (2 : Nat) []) ∧ ((Ob.row (2 : Nat) [] = Ob.row (2 : Nat) []) ∧ (True)))) (((0 : Nat) ≤ (140737488355328 : Nat)) ∧ ((∀ (e : D), e ∈ [] → e.cells.length = (2 : Nat)) ∧ ((AV.own (1056 : Nat) (2 : Nat) = AV.own (1056 : Nat) (2 : Nat)) ∧ ((Ob.row (2 : Nat) [] = Ob.row (2 : Nat) []) ∧ ((Ob.row (2 : Nat) [] = Ob.row (2 : Nat) []) ∧ (True))))))) (h := {}) (subs := []) (ws := []) (ρ := []) (by kernel_rfl) ?_
  repeat' (first | with_reducible exact True.intro | with_reducible refine And.intro ?_ ?_ | with_reducible refine condP_dec (fun _ => ?_) (fun _ => ?_) | with_reducible refine condP_eq (fun _ => ?_) (fun _ => ?_) | with_reducible refine condP_ne (fun _ => ?_) (fun _ => ?_) | with_reducible refine condP_not (condP_dec (fun _ => ?_) (fun _ => ?_)) | with_reducible refine condP_not (condP_eq (fun _ => ?_) (fun _ => ?_)) | with_reducible refine condP_not (condP_intro (fun _ => ?_) (fun _ => ?_)) | with_reducible refine condP_intro (fun _ => ?_) (fun _ => ?_))
  all_goals first | rfl | (simp; done) | (intro e he; simp at he; done) | skip

theorem ptD_cloneO (l : List Pt) (hl : l.length < 1073741824) : FnOK Try.prog 40 [.own 0 2] [.row 2 (l.map ptD)] (.own 1 2) [.row 2 (l.map ptD), .row 2 (l.map ptD)] := by
  cases l with
  | nil => exact fnOK_nilO rfl fun a c => ptD_cloneW a c
  | cons x r => exact ptD_cloneQ (x :: r) hl (by simp)


def ptD_E (a b : List Pt) (j : Nat) : St := ⟨[(0, .d (.sl (a.map ptD))), (1, .d (.sl (b.map ptD))), (13, .d (.int .i64 j)), (12, .d (.int .i64 a.length))], []⟩
def ptD_O : St := ⟨[(4, .d (.bool false))], []⟩
set_option maxRecDepth 100000 in
set_option maxHeartbeats 1000000 in
theorem ptD_er (a b : List Pt) (hl : a.length < 1073741824) (j : Nat) (x : Pt) (hx : a[j]? = some x) (hy : b[j]? = some x) : Runs Try.prog 0 (loopN Try.prog 48 0) (St.as (ptD_E a b j) 26) (.normal) (St.as (ptD_E a b (j+1)) 26) := by
  refine round_wp (p := condP (decide ((↑j : Int) < (↑a.length : Int))) (((0 : Int) ≤ (↑j : Int)) ∧ (((List.map ptD a)[(↑j : Int).toNat]? = some (D.agg [D.int IntKind.i64 x.a, D.str x.d])) ∧ (((0 : Int) ≤ (↑j : Int)) ∧ (((List.map ptD b)[(↑j : Int).toNat]? = some (D.agg [D.int IntKind.i64 x.a, D.str x.d])) ∧ (((D.bool !(x.a == x.a && (x.d == x.d && true))) = D.bool false) ∧ ((AV.d (D.sl (List.map ptD a)) = AV.d (D.sl (List.map ptD a))) ∧ ((AV.d (D.sl (List.map ptD b)) = AV.d (D.sl (List.map ptD b))) ∧ ((AV.d (D.int IntKind.i64 (IntKind.i64.wrap ((↑j : Int) + (1 : Int)))) = AV.d (D.int IntKind.i64 (↑(j + (1 : Nat)) : Int))) ∧ ((AV.d (D.int IntKind.i64 (↑a.length : Int)) = AV.d (D.int IntKind.i64 (↑a.length : Int))) ∧ (True)))))))))) (False)) (h := {els := [(16, .el (ptD x)), (20, .el (ptD x))], H := [(6, [(8, .val (.bool false))])]}) (subs := []) (ws := []) (ρ := []) (by kernel_rfl) ?_
  have hj := get_lt hx
  have hj2 := get_lt hy
  have hi := inc_i64 (j := j) (by omega)
  simp only [List.length_map, hi]
  refine condP_t (by rw [decide_eq_true_eq]; omega) ?_
  repeat' (first | with_reducible exact True.intro | with_reducible refine And.intro ?_ ?_ | with_reducible refine condP_dec (fun _ => ?_) (fun _ => ?_) | with_reducible refine condP_eq (fun _ => ?_) (fun _ => ?_) | with_reducible refine condP_ne (fun _ => ?_) (fun _ => ?_) | with_reducible refine condP_not (condP_dec (fun _ => ?_) (fun _ => ?_)) | with_reducible refine condP_not (condP_eq (fun _ => ?_) (fun _ => ?_)) | with_reducible refine condP_not (condP_intro (fun _ => ?_) (fun _ => ?_)) | with_reducible refine condP_intro (fun _ => ?_) (fun _ => ?_))
  all_goals first | exact el_map hx rfl | exact el_map hy rfl | rfl | omega | (refine congrArg D.bool ?_; simp; done) | (exfalso; simp_all; done) | (refine congrArg D.bool ?_; rw [ptD_ne hne]; rfl) | (exfalso; have hq := ptD_ne hne; simp_all; done) | skip

set_option maxRecDepth 100000 in
set_option maxHeartbeats 1000000 in
theorem ptD_ee (a b : List Pt) (hl : a.length < 1073741824) (j : Nat) (x y : Pt) (hx : a[j]? = some x) (hy : b[j]? = some y) (hne : x ≠ y) : Runs Try.prog 0 (loopN Try.prog 48 0) (St.as (ptD_E a b j) 26) (.ret) (St.as (ptD_O) 26) := by
  refine round_wp (p := condP (decide ((↑j : Int) < (↑a.length : Int))) (((0 : Int) ≤ (↑j : Int)) ∧ (((List.map ptD a)[(↑j : Int).toNat]? = some (D.agg [D.int IntKind.i64 x.a, D.str x.d])) ∧ (((0 : Int) ≤ (↑j : Int)) ∧ (((List.map ptD b)[(↑j : Int).toNat]? = some (D.agg [D.int IntKind.i64 y.a, D.str y.d])) ∧ (((D.bool !(x.a == y.a && (x.d == y.d && true))) = D.bool true) ∧ ((AV.d (D.bool false) = AV.d (D.bool false)) ∧ (True))))))) (False)) (h := {els := [(16, .el (ptD x)), (20, .el (ptD y))], H := [(6, [(8, .val (.bool true))])]}) (subs := []) (ws := []) (ρ := []) (by kernel_rfl) ?_
  have hj := get_lt hx
  have hj2 := get_lt hy
  have hi := inc_i64 (j := j) (by omega)
  simp only [List.length_map, hi]
  refine condP_t (by rw [decide_eq_true_eq]; omega) ?_
  repeat' (first | with_reducible exact True.intro | with_reducible refine And.intro ?_ ?_ | with_reducible refine condP_dec (fun _ => ?_) (fun _ => ?_) | with_reducible refine condP_eq (fun _ => ?_) (fun _ => ?_) | with_reducible refine condP_ne (fun _ => ?_) (fun _ => ?_) | with_reducible refine condP_not (condP_dec (fun _ => ?_) (fun _ => ?_)) | with_reducible refine condP_not (condP_eq (fun _ => ?_) (fun _ => ?_)) | with_reducible refine condP_not (condP_intro (fun _ => ?_) (fun _ => ?_)) | with_reducible refine condP_intro (fun _ => ?_) (fun _ => ?_))
  all_goals first | exact el_map hx rfl | exact el_map hy rfl | rfl | omega | (refine congrArg D.bool ?_; simp; done) | (exfalso; simp_all; done) | (refine congrArg D.bool ?_; rw [ptD_ne hne]; rfl) | (exfalso; have hq := ptD_ne hne; simp_all; done) | skip

set_option maxRecDepth 100000 in
set_option maxHeartbeats 1000000 in
theorem ptD_eq' (a b : List Pt) : Runs Try.prog 0 (loopN Try.prog 48 0) (St.as (ptD_E a b a.length) 26) (.exit 0) (St.as (ptD_E a b a.length) 26) := by
  refine round_wp (p := condP (decide ((↑a.length : Int) < (↑a.length : Int))) (False) ((AV.d (D.sl (List.map ptD a)) = AV.d (D.sl (List.map ptD a))) ∧ ((AV.d (D.sl (List.map ptD b)) = AV.d (D.sl (List.map ptD b))) ∧ ((AV.d (D.int IntKind.i64 (↑a.length : Int)) = AV.d (D.int IntKind.i64 (↑a.length : Int))) ∧ ((AV.d (D.int IntKind.i64 (↑a.length : Int)) = AV.d (D.int IntKind.i64 (↑a.length : Int))) ∧ (True)))))) (h := {}) (subs := []) (ws := []) (ρ := []) (by kernel_rfl) ?_
  repeat' (first | with_reducible exact True.intro | with_reducible refine And.intro ?_ ?_ | with_reducible refine condP_dec (fun _ => ?_) (fun _ => ?_) | with_reducible refine condP_eq (fun _ => ?_) (fun _ => ?_) | with_reducible refine condP_ne (fun _ => ?_) (fun _ => ?_) | with_reducible refine condP_not (condP_dec (fun _ => ?_) (fun _ => ?_)) | with_reducible refine condP_not (condP_eq (fun _ => ?_) (fun _ => ?_)) | with_reducible refine condP_not (condP_intro (fun _ => ?_) (fun _ => ?_)) | with_reducible refine condP_intro (fun _ => ?_) (fun _ => ?_))
  all_goals (try simp only [List.length_map, AV.d.injEq, D.int.injEq, D.bool.injEq, D.str.injEq, D.sl.injEq, true_and, and_true, decide_eq_true_eq, decide_eq_false_iff_not, decide_eq_decide])
  all_goals (try simp only [List.length_map] at *)
  all_goals first | rfl | omega

set_option maxRecDepth 100000 in
set_option maxHeartbeats 1000000 in
theorem ptD_el (a b : List Pt) (h : a.length ≠ b.length) : FnOK Try.prog 48 ([.d (.sl (a.map ptD)), .d (.sl (b.map ptD))]) ([]) (.d (.bool false)) ([]) := by
  refine fnOK_wp (p := condP ((↑(List.map ptD a).length : Int) != (↑(List.map ptD b).length : Int)) ((AV.d (D.bool false) = AV.d (D.bool false)) ∧ (True)) ((AV.d (D.sl (List.map ptD a)) = AV.d (D.sl (List.map ptD a))) ∧ ((AV.d (D.sl (List.map ptD b)) = AV.d (D.sl (List.map ptD b))) ∧ ((AV.d (D.int IntKind.i64 (0 : Int)) = AV.d (D.int IntKind.i64 (0 : Int))) ∧ ((AV.d (D.int IntKind.i64 (↑(List.map ptD a).length : Int)) = AV.d (D.int IntKind.i64 (↑a.length : Int))) ∧ ((LoopsS Try.prog (0 : Nat) (loopN Try.prog (48 : Nat) (0 : Nat)) (ptD_E a b (0 : Nat)) Exit.ret ptD_O (26 : Nat)) ∧ ((AV.d (D.bool false) = AV.d (D.bool false)) ∧ (True)))))))) (h := {}) (subs := [⟨[], [], ptD_E a b 0, .ret, ptD_O⟩]) (ws := []) (ρ := []) (by kernel_rfl) ?_
  simp only [List.length_map]
  refine condP_t (by simp; omega) ?_
  first | trivial | exact ⟨rfl, trivial⟩

set_option maxRecDepth 100000 in
set_option maxHeartbeats 1000000 in
theorem ptD_ey (a b : List Pt) (h : a.length = b.length) (hL : Loops Try.prog 0 (loopN Try.prog 48 0) ((ptD_E a b 0).as 26) (.exit 0) ((ptD_E a b a.length).as 26)) : FnOK Try.prog 48 ([.d (.sl (a.map ptD)), .d (.sl (b.map ptD))]) ([]) (.d (.bool true)) ([]) := by
  refine fnOK_wp (p := (D.bool ((↑(List.map ptD a).length : Int) != (↑(List.map ptD b).length : Int)) = D.bool false) ∧ ((AV.d (D.sl (List.map ptD a)) = AV.d (D.sl (List.map ptD a))) ∧ ((AV.d (D.sl (List.map ptD b)) = AV.d (D.sl (List.map ptD b))) ∧ ((AV.d (D.int IntKind.i64 (0 : Int)) = AV.d (D.int IntKind.i64 (0 : Int))) ∧ ((AV.d (D.int IntKind.i64 (↑(List.map ptD a).length : Int)) = AV.d (D.int IntKind.i64 (↑a.length : Int))) ∧ ((LoopsS Try.prog (0 : Nat) (loopN Try.prog (48 : Nat) (0 : Nat)) (ptD_E a b (0 : Nat)) (Exit.exit (0 : Nat)) (ptD_E a b a.length) (26 : Nat)) ∧ ((AV.d (D.bool true) = AV.d (D.bool true)) ∧ (True)))))))) (h := {H := [(1, [(4, .val (.bool false))])]}) (subs := [⟨[], [], ptD_E a b 0, .exit 0, ptD_E a b a.length⟩]) (ws := []) (ρ := []) (by kernel_rfl) ?_
  simp only [List.length_map]
  repeat' (first | with_reducible exact True.intro | with_reducible refine And.intro ?_ ?_ | with_reducible refine condP_dec (fun _ => ?_) (fun _ => ?_) | with_reducible refine condP_eq (fun _ => ?_) (fun _ => ?_) | with_reducible refine condP_ne (fun _ => ?_) (fun _ => ?_) | with_reducible refine condP_not (condP_dec (fun _ => ?_) (fun _ => ?_)) | with_reducible refine condP_not (condP_eq (fun _ => ?_) (fun _ => ?_)) | with_reducible refine condP_not (condP_intro (fun _ => ?_) (fun _ => ?_)) | with_reducible refine condP_intro (fun _ => ?_) (fun _ => ?_))
  all_goals first | exact hL | rfl | exact dno (by omega) | (exfalso; omega) | (refine congrArg D.bool ?_; simp; omega) | skip

set_option maxRecDepth 100000 in
set_option maxHeartbeats 1000000 in
theorem ptD_en (a b : List Pt) (h : a.length = b.length) (hL : Loops Try.prog 0 (loopN Try.prog 48 0) ((ptD_E a b 0).as 26) .ret (ptD_O.as 26)) : FnOK Try.prog 48 ([.d (.sl (a.map ptD)), .d (.sl (b.map ptD))]) ([]) (.d (.bool false)) ([]) := by
  refine fnOK_wp (p := (D.bool ((↑(List.map ptD a).length : Int) != (↑(List.map ptD b).length : Int)) = D.bool false) ∧ ((AV.d (D.sl (List.map ptD a)) = AV.d (D.sl (List.map ptD a))) ∧ ((AV.d (D.sl (List.map ptD b)) = AV.d (D.sl (List.map ptD b))) ∧ ((AV.d (D.int IntKind.i64 (0 : Int)) = AV.d (D.int IntKind.i64 (0 : Int))) ∧ ((AV.d (D.int IntKind.i64 (↑(List.map ptD a).length : Int)) = AV.d (D.int IntKind.i64 (↑a.length : Int))) ∧ ((LoopsS Try.prog (0 : Nat) (loopN Try.prog (48 : Nat) (0 : Nat)) (ptD_E a b (0 : Nat)) Exit.ret ptD_O (26 : Nat)) ∧ ((AV.d (D.bool false) = AV.d (D.bool false)) ∧ (True)))))))) (h := {H := [(1, [(4, .val (.bool false))])]}) (subs := [⟨[], [], ptD_E a b 0, .ret, ptD_O⟩]) (ws := []) (ρ := []) (by kernel_rfl) ?_
  simp only [List.length_map]
  repeat' (first | with_reducible exact True.intro | with_reducible refine And.intro ?_ ?_ | with_reducible refine condP_dec (fun _ => ?_) (fun _ => ?_) | with_reducible refine condP_eq (fun _ => ?_) (fun _ => ?_) | with_reducible refine condP_ne (fun _ => ?_) (fun _ => ?_) | with_reducible refine condP_not (condP_dec (fun _ => ?_) (fun _ => ?_)) | with_reducible refine condP_not (condP_eq (fun _ => ?_) (fun _ => ?_)) | with_reducible refine condP_not (condP_intro (fun _ => ?_) (fun _ => ?_)) | with_reducible refine condP_intro (fun _ => ?_) (fun _ => ?_))
  all_goals first | exact hL | rfl | exact dno (by omega) | (exfalso; omega) | (refine congrArg D.bool ?_; simp; omega) | skip

theorem ptD_equal (a b : List Pt) (hl : a.length < 1073741824) : FnOK Try.prog 48 [.d (.sl (a.map ptD)), .d (.sl (b.map ptD))] [] (.d (.bool (decide (a = b)))) [] := by
  by_cases h : a.length = b.length
  · rcases diff_or a b h with e | ⟨m, x, y, h1, h2, h3, h4⟩
    · rw [decide_eq_true e]
      refine ptD_ey a b h (loops_n (I := fun j => (ptD_E a b j).as 26) (by simp) a.length 0 (by omega) (fun j _ hj => ptD_er a b hl j a[j] (get_of hj) (by rw [← e]; exact get_of hj)) (ptD_eq' a b))
    · have hm := get_lt h1
      rw [decide_eq_false (by rintro rfl; rw [h1] at h2; cases h2; exact h3 rfl)]
      exact ptD_en a b h (loops_n (I := fun j => (ptD_E a b j).as 26) (by simp) m 0 (by omega) (fun j _ hj => ptD_er a b hl j (a[j]'(by omega)) (get_of _) (h4 j _ hj (get_of _))) (ptD_ee a b hl m x y h1 h2 h3))
  · rw [decide_eq_false (by rintro rfl; exact h rfl)]; exact ptD_el a b h


/-! ### Delete -/
theorem pt_one (l : List Pt) : ∀ e ∈ l.map ptD, e.cells.length = 2 := ptD_sz l
set_option maxRecDepth 100000 in
set_option maxHeartbeats 1000000 in
theorem del34' (x y : D) (L : List D) (hy : y = ptD ⟨0, []⟩) (hl : L.length < 1000000) (hx : ∀ e ∈ L, e.cells.length = 2) : FnOK Try.prog 45 ([.own 0 2, .d (.int .i64 0), .d (.int .i64 1)]) ([.row 2 (x :: L)]) (.sub 0 2 0 L.length) ([.row 2 (L ++ [y])]) := by
  refine fnOK_wp (p := ((0 : Int) ≤ (0 : Int) ∧ (0 : Int) ≤ (1 : Int) ∧ (1 : Int) ≤ (↑(x :: L).length : Int) ∧ (↑(x :: L).length : Int) ≤ (↑(x :: L).length : Int)) ∧ (((0 : Int) ≤ (0 : Int) ∧ (0 : Int) ≤ (0 : Int) ∧ (0 : Int) ≤ (↑(x :: L).length : Int)) ∧ (((0 : Int) ≤ (1 : Int) ∧ (1 : Int) ≤ (↑(x :: L).length : Int) ∧ (↑(x :: L).length : Int) ≤ (↑(x :: L).length : Int)) ∧ ((x :: L ≠ []) ∧ (((0 : Nat) + (List.take ((↑(x :: L).length : Int) - (1 : Int)).toNat (List.drop (1 : Nat) (x :: L))).length ≤ (x :: L).length) ∧ ((((0 : Nat) + (List.take ((↑(x :: L).length : Int) - (1 : Int)).toNat (List.drop (1 : Nat) (x :: L))).length) * (24 : Nat) ≤ (140737488355328 : Nat)) ∧ ((∀ (e : D), e ∈ List.take ((↑(x :: L).length : Int) - (1 : Int)).toNat (List.drop (1 : Nat) (x :: L)) → e.cells.length = (2 : Nat)) ∧ (((0 : Int) ≤ (↑(((0 : Int) - (0 : Int)).toNat + (List.take ((↑(x :: L).length : Int) - (1 : Int)).toNat (List.drop (Int.toNat (1 : Int)) (x :: L))).length) : Int) ∧ (↑(((0 : Int) - (0 : Int)).toNat + (List.take ((↑(x :: L).length : Int) - (1 : Int)).toNat (List.drop (Int.toNat (1 : Int)) (x :: L))).length) : Int) ≤ (↑(x :: L).length : Int) ∧ ((↑(x :: L).length : Int) ≤ (↑(((0 : Int) - (0 : Int)).toNat + (List.take ((↑(x :: L).length : Int) - (1 : Int)).toNat (List.drop (Int.toNat (1 : Int)) (x :: L))).length) : Int) ∨ (↑(0 : Nat) : Int) + (↑(x :: L).length : Int) ≤ (↑(List.take ((0 : Int) - (0 : Int)).toNat (x :: L) ++ List.take ((↑(x :: L).length : Int) - (1 : Int)).toNat (List.drop (Int.toNat (1 : Int)) (x :: L)) ++ List.drop (((0 : Int) - (0 : Int)).toNat + (List.take ((↑(x :: L).length : Int) - (1 : Int)).toNat (List.drop (Int.toNat (1 : Int)) (x :: L))).length) (x :: L)).length : Int))) ∧ ((List.take (0 : Nat) (x :: L) ++ List.take ((↑(x :: L).length : Int) - (1 : Int)).toNat (List.drop (1 : Nat) (x :: L)) ++ List.drop ((0 : Nat) + (List.take ((↑(x :: L).length : Int) - (1 : Int)).toNat (List.drop (1 : Nat) (x :: L))).length) (x :: L) ≠ []) ∧ (((0 : Nat) < ((↑(x :: L).length : Int) - (↑((0 : Nat) + (List.take ((↑(x :: L).length : Int) - (1 : Int)).toNat (List.drop (1 : Nat) (x :: L))).length) : Int)).toNat) ∧ (((0 : Nat) + (↑((0 : Nat) + (List.take ((↑(x :: L).length : Int) - (1 : Int)).toNat (List.drop (1 : Nat) (x :: L))).length) : Int).toNat + ((↑(x :: L).length : Int) - (↑((0 : Nat) + (List.take ((↑(x :: L).length : Int) - (1 : Int)).toNat (List.drop (1 : Nat) (x :: L))).length) : Int)).toNat ≤ (List.take (0 : Nat) (x :: L) ++ List.take ((↑(x :: L).length : Int) - (1 : Int)).toNat (List.drop (1 : Nat) (x :: L)) ++ List.drop ((0 : Nat) + (List.take ((↑(x :: L).length : Int) - (1 : Int)).toNat (List.drop (1 : Nat) (x :: L))).length) (x :: L)).length) ∧ ((AV.sub (0 : Nat) (2 : Nat) (0 : Nat) ((0 : Nat) + (List.take ((↑(x :: L).length : Int) - (1 : Int)).toNat (List.drop (1 : Nat) (x :: L))).length) = AV.sub (0 : Nat) (2 : Nat) (0 : Nat) L.length) ∧ ((Ob.row (2 : Nat) (List.take ((0 : Nat) + (↑((0 : Nat) + (List.take ((↑(x :: L).length : Int) - (1 : Int)).toNat (List.drop (1 : Nat) (x :: L))).length) : Int).toNat) (List.take (0 : Nat) (x :: L) ++ List.take ((↑(x :: L).length : Int) - (1 : Int)).toNat (List.drop (1 : Nat) (x :: L)) ++ List.drop ((0 : Nat) + (List.take ((↑(x :: L).length : Int) - (1 : Int)).toNat (List.drop (1 : Nat) (x :: L))).length) (x :: L)) ++ List.replicate ((↑(x :: L).length : Int) - (↑((0 : Nat) + (List.take ((↑(x :: L).length : Int) - (1 : Int)).toNat (List.drop (1 : Nat) (x :: L))).length) : Int)).toNat (D.agg [D.int IntKind.i64 (0 : Int), D.str []]) ++ List.drop ((0 : Nat) + (↑((0 : Nat) + (List.take ((↑(x :: L).length : Int) - (1 : Int)).toNat (List.drop (1 : Nat) (x :: L))).length) : Int).toNat + ((↑(x :: L).length : Int) - (↑((0 : Nat) + (List.take ((↑(x :: L).length : Int) - (1 : Int)).toNat (List.drop (1 : Nat) (x :: L))).length) : Int)).toNat) (List.take (0 : Nat) (x :: L) ++ List.take ((↑(x :: L).length : Int) - (1 : Int)).toNat (List.drop (1 : Nat) (x :: L)) ++ List.drop ((0 : Nat) + (List.take ((↑(x :: L).length : Int) - (1 : Int)).toNat (List.drop (1 : Nat) (x :: L))).length) (x :: L))) = Ob.row (2 : Nat) (L ++ [y])) ∧ (True)))))))))))))) (h := {}) (subs := []) (ws := []) (ρ := []) (by kernel_rfl) ?_
  have e1 : (((x :: L).length : Int) - 1).toNat = L.length := by simp
  have e2 : List.take L.length (List.drop 1 (x :: L)) = L := by simp
  have e3 : (((x :: L).length : Int) - (L.length : Int)).toNat = 1 := by simp
  have e4 : List.take 0 (x :: L) ++ L ++ List.drop L.length (x :: L) = L ++ List.drop L.length (x :: L) := by simp
  have e5 : ((L.length : Int)).toNat = L.length := rfl
  have e6 : (List.drop L.length (x :: L)).length = 1 := by simp
  have e7 : List.drop (L.length + 1) (L ++ List.drop L.length (x :: L)) = [] := by
    rw [List.drop_eq_nil_iff, List.length_append, e6]; omega
  have e8 : List.take L.length (L ++ List.drop L.length (x :: L)) = L := by simp
  have e9 : (L ++ List.drop L.length (x :: L)).length = L.length + 1 := by rw [List.length_append, e6]
  have ea : (x :: L).length = L.length + 1 := rfl
  subst hy
  simp only [e1, e2, Nat.zero_add, e3, e4, e5, e6, e7, e8, e9, List.append_nil]
  repeat' (first | with_reducible exact True.intro | with_reducible refine And.intro ?_ ?_ | with_reducible refine condP_dec (fun _ => ?_) (fun _ => ?_) | with_reducible refine condP_eq (fun _ => ?_) (fun _ => ?_) | with_reducible refine condP_ne (fun _ => ?_) (fun _ => ?_) | with_reducible refine condP_not (condP_dec (fun _ => ?_) (fun _ => ?_)) | with_reducible refine condP_not (condP_eq (fun _ => ?_) (fun _ => ?_)) | with_reducible refine condP_not (condP_intro (fun _ => ?_) (fun _ => ?_)) | with_reducible refine condP_intro (fun _ => ?_) (fun _ => ?_))
  all_goals first | rfl | omega | exact hx | (simp; done) | (simp; omega) | (rw [ea]; omega) | (intro e he; exact hx e he) | (rw [e9]; omega) | skip

theorem del34 (x : Pt) (l : List Pt) (hl : l.length < 1000000) : FnOK Try.prog 45 [.own 0 2, .d (.int .i64 0), .d (.int .i64 1)] [.row 2 (ptD x :: l.map ptD)] (.sub 0 2 0 l.length) [.row 2 (l.map ptD ++ [ptD ⟨0, []⟩])] := by
  have h := del34' (ptD x) _ (l.map ptD) rfl (by simpa using hl) (pt_one l)
  rw [List.length_map] at h
  exact h
/-! ### Small ones -/
set_option maxRecDepth 100000 in
set_option maxHeartbeats 1000000 in
theorem end33 (x : Pt) (h : IntKind.i64.wrap (pEnd x) = pEnd x) : FnOK Try.prog 44 ([.d (ptD x)]) ([]) (.d (.int .i64 (pEnd x))) ([]) := by
  refine fnOK_wp (p := (AV.d (D.int IntKind.i64 (IntKind.i64.wrap (x.a + (↑x.d.length : Int)))) = AV.d (D.int IntKind.i64 (pEnd x))) ∧ (True)) (h := {}) (subs := []) (ws := []) (ρ := []) (by kernel_rfl) ?_
  unfold pEnd at h ⊢
  rw [h]
  repeat' (first | with_reducible exact True.intro | with_reducible refine And.intro ?_ ?_ | with_reducible refine condP_dec (fun _ => ?_) (fun _ => ?_) | with_reducible refine condP_eq (fun _ => ?_) (fun _ => ?_) | with_reducible refine condP_ne (fun _ => ?_) (fun _ => ?_) | with_reducible refine condP_not (condP_dec (fun _ => ?_) (fun _ => ?_)) | with_reducible refine condP_not (condP_eq (fun _ => ?_) (fun _ => ?_)) | with_reducible refine condP_not (condP_intro (fun _ => ?_) (fun _ => ?_)) | with_reducible refine condP_intro (fun _ => ?_) (fun _ => ?_))
  all_goals first | rfl | skip

end Go.Proofs.Ytfacpafkldmkcaa.C12
