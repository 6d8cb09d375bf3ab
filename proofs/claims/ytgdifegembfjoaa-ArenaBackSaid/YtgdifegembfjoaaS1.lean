/-
laws 18: contracts of the library's functions on cells, and of the small ones.
-/
import Derived.Test.YtgdifegembfjoaaS0
import Derived.Test.YtgdifegembfjoaaProg
import Derived.KernelRfl
set_option linter.unusedSimpArgs false
set_option linter.unusedVariables false
namespace Go.Proofs.Ytgdifegembfjoaa
open Sx Go.RowKit

def gAns (a : AV) : List D → Option (AV × List Ob) := fun _ => some (a, [])
def gYes : List D → Option (AV × List Ob) := fun _ => some (.d (.bool true), [])
def gId : List D → Option (AV × List Ob) := fun | [d] => some (.d d, []) | _ => none
theorem ceD_ne {x y : Ce} (h : x ≠ y) : (x.v == y.v && (x.x == y.x && (x.l == y.l && true))) = false := by
  obtain ⟨a, b, c⟩ := x
  obtain ⟨a', b', c'⟩ := y
  cases hq : (a == a' && (b == b' && (c == c' && true)))
  · rfl
  · simp at hq
    exact absurd (by rw [hq.1, hq.2.1, hq.2.2]) h

theorem ceD_sz (l : List Ce) : ∀ e ∈ l.map ceD, e.cells.length = 3 := by
  intro e he
  obtain ⟨x, -, rfl⟩ := List.mem_map.1 he
  rfl
set_option maxRecDepth 100000 in
set_option maxHeartbeats 1000000 in
theorem ceD_cloneP (l : List Ce) (hl : l.length < 1073741824) (hne : l.map ceD ≠ []) : FnOK Try.prog 42 ([.d (.sl (l.map ceD))]) ([]) (.own 0 3) ([.row 3 (l.map ceD)]) := by
  refine fnOK_wp (p := (D.bool false = D.bool false) ∧ ((List.map ceD l ≠ []) ∧ ((((0 : Nat) + (List.map ceD l).length) * (24 : Nat) ≤ (140737488355328 : Nat)) ∧ ((∀ (e : D), e ∈ List.map ceD l → e.cells.length = (3 : Nat)) ∧ ((AV.own (1056 : Nat) (3 : Nat) = AV.own (1056 : Nat) (3 : Nat)) ∧ ((Ob.row (3 : Nat) ([] ++ List.map ceD l) = Ob.row (3 : Nat) (List.map ceD l)) ∧ (True))))))) (h := {H := [(1, [(1, .val (.bool false))])]}) (subs := []) (ws := []) (ρ := []) (by kernel_rfl) ?_
  repeat' (first | with_reducible exact True.intro | with_reducible refine And.intro ?_ ?_ | with_reducible refine condP_dec (fun _ => ?_) (fun _ => ?_) | with_reducible refine condP_eq (fun _ => ?_) (fun _ => ?_) | with_reducible refine condP_ne (fun _ => ?_) (fun _ => ?_) | with_reducible refine condP_not (condP_dec (fun _ => ?_) (fun _ => ?_)) | with_reducible refine condP_not (condP_eq (fun _ => ?_) (fun _ => ?_)) | with_reducible refine condP_not (condP_intro (fun _ => ?_) (fun _ => ?_)) | with_reducible refine condP_intro (fun _ => ?_) (fun _ => ?_))
  all_goals first | exact hne | rfl | (simp; omega) | exact ceD_sz _ | skip

set_option maxRecDepth 100000 in
set_option maxHeartbeats 1000000 in
theorem ceD_cloneZ (a : Option Addr) (c : Nat) : FnOK Try.prog 42 ([.raw (.slice a 0 c)]) ([]) (.own 0 3) ([.row 3 []]) := by
  refine fnOK_wp (p := condP (a.isNone) ((AV.own (900 : Nat) (3 : Nat) = AV.own (900 : Nat) (3 : Nat)) ∧ ((Ob.row (3 : Nat) [] = Ob.row (3 : Nat) []) ∧ (True))) (((0 : Nat) ≤ (140737488355328 : Nat)) ∧ ((∀ (e : D), e ∈ [] → e.cells.length = (3 : Nat)) ∧ ((AV.own (1056 : Nat) (3 : Nat) = AV.own (1056 : Nat) (3 : Nat)) ∧ ((Ob.row (3 : Nat) [] = Ob.row (3 : Nat) []) ∧ (True)))))) (h := {}) (subs := []) (ws := []) (ρ := []) (by kernel_rfl) ?_
  repeat' (first | with_reducible exact True.intro | with_reducible refine And.intro ?_ ?_ | with_reducible refine condP_dec (fun _ => ?_) (fun _ => ?_) | with_reducible refine condP_eq (fun _ => ?_) (fun _ => ?_) | with_reducible refine condP_ne (fun _ => ?_) (fun _ => ?_) | with_reducible refine condP_not (condP_dec (fun _ => ?_) (fun _ => ?_)) | with_reducible refine condP_not (condP_eq (fun _ => ?_) (fun _ => ?_)) | with_reducible refine condP_not (condP_intro (fun _ => ?_) (fun _ => ?_)) | with_reducible refine condP_intro (fun _ => ?_) (fun _ => ?_))
  all_goals first | rfl | (simp; done) | (intro e he; simp at he; done) | skip

theorem ceD_clone (l : List Ce) (hl : l.length < 1073741824) : FnOK Try.prog 42 [.d (.sl (l.map ceD))] [] (.own 0 3) [.row 3 (l.map ceD)] := by
  cases l with
  | nil => exact fnOK_nil fun a c => ceD_cloneZ a c
  | cons x r => exact ceD_cloneP (x :: r) hl (by simp)
set_option maxRecDepth 100000 in
set_option maxHeartbeats 1000000 in
theorem ceD_cloneQ (l : List Ce) (hl : l.length < 1073741824) (hne : l.map ceD ≠ []) : FnOK Try.prog 42 ([.own 0 3]) ([.row 3 (l.map ceD)]) (.own 1 3) ([.row 3 (l.map ceD), .row 3 (l.map ceD)]) := by
  refine fnOK_wp (p := (D.bool false = D.bool false) ∧ ((List.map ceD l ≠ []) ∧ ((((0 : Nat) + (List.map ceD l).length) * (24 : Nat) ≤ (140737488355328 : Nat)) ∧ ((∀ (e : D), e ∈ List.map ceD l → e.cells.length = (3 : Nat)) ∧ ((AV.own (1056 : Nat) (3 : Nat) = AV.own (1056 : Nat) (3 : Nat)) ∧ ((Ob.row (3 : Nat) (List.map ceD l) = Ob.row (3 : Nat) (List.map ceD l)) ∧ ((Ob.row (3 : Nat) ([] ++ List.map ceD l) = Ob.row (3 : Nat) (List.map ceD l)) ∧ (True)))))))) (h := {H := [(1, [(1, .val (.bool false))])]}) (subs := []) (ws := []) (ρ := []) (by kernel_rfl) ?_
  repeat' (first | with_reducible exact True.intro | with_reducible refine And.intro ?_ ?_ | with_reducible refine condP_dec (fun _ => ?_) (fun _ => ?_) | with_reducible refine condP_eq (fun _ => ?_) (fun _ => ?_) | with_reducible refine condP_ne (fun _ => ?_) (fun _ => ?_) | with_reducible refine condP_not (condP_dec (fun _ => ?_) (fun _ => ?_)) | with_reducible refine condP_not (condP_eq (fun _ => ?_) (fun _ => ?_)) | with_reducible refine condP_not (condP_intro (fun _ => ?_) (fun _ => ?_)) | with_reducible refine condP_intro (fun _ => ?_) (fun _ => ?_))
  all_goals first | exact hne | rfl | (simp; omega) | exact ceD_sz _ | skip

set_option maxRecDepth 100000 in
set_option maxHeartbeats 1000000 in
theorem ceD_cloneW (a : Option Addr) (c : Nat) : FnOK Try.prog 42 ([.raw (.slice a 0 c)]) ([.row 3 []]) (.own 1 3) ([.row 3 [], .row 3 []]) := by
  refine fnOK_wp (p := condP (a.isNone) ((AV.own (901 : Nat) (3 : Nat) = AV.own (901 : Nat) (3 : Nat)) ∧ ((Ob.row (3 : Nat) [] = Ob.row (3 : Nat) []) ∧ ((Ob.row (3 : Nat) [] = Ob.row (3 : Nat) []) ∧ (True)))) (((0 : Nat) ≤ (140737488355328 : Nat)) ∧ ((∀ (e : D), e ∈ [] → e.cells.length = (3 : Nat)) ∧ ((AV.own (1056 : Nat) (3 : Nat) = AV.own (1056 : Nat) (3 : Nat)) ∧ ((Ob.row (3 : Nat) [] = Ob.row (3 : Nat) []) ∧ ((Ob.row (3 : Nat) [] = Ob.row (3 : Nat) []) ∧ (True))))))) (h := {}) (subs := []) (ws := []) (ρ := []) (by kernel_rfl) ?_
  repeat' (first | with_reducible exact True.intro | with_reducible refine And.intro ?_ ?_ | with_reducible refine condP_dec (fun _ => ?_) (fun _ => ?_) | with_reducible refine condP_eq (fun _ => ?_) (fun _ => ?_) | with_reducible refine condP_ne (fun _ => ?_) (fun _ => ?_) | with_reducible refine condP_not (condP_dec (fun _ => ?_) (fun _ => ?_)) | with_reducible refine condP_not (condP_eq (fun _ => ?_) (fun _ => ?_)) | with_reducible refine condP_not (condP_intro (fun _ => ?_) (fun _ => ?_)) | with_reducible refine condP_intro (fun _ => ?_) (fun _ => ?_))
  all_goals first | rfl | (simp; done) | (intro e he; simp at he; done) | skip

theorem ceD_cloneO (l : List Ce) (hl : l.length < 1073741824) : FnOK Try.prog 42 [.own 0 3] [.row 3 (l.map ceD)] (.own 1 3) [.row 3 (l.map ceD), .row 3 (l.map ceD)] := by
  cases l with
  | nil => exact fnOK_nilO rfl fun a c => ceD_cloneW a c
  | cons x r => exact ceD_cloneQ (x :: r) hl (by simp)


def ceD_E (a b : List Ce) (j : Nat) : St := ⟨[(0, .d (.sl (a.map ceD))), (1, .d (.sl (b.map ceD))), (13, .d (.int .i64 j)), (12, .d (.int .i64 a.length))], []⟩
def ceD_O : St := ⟨[(4, .d (.bool false))], []⟩
set_option maxRecDepth 100000 in
set_option maxHeartbeats 1000000 in
theorem ceD_er (a b : List Ce) (hl : a.length < 1073741824) (j : Nat) (x : Ce) (hx : a[j]? = some x) (hy : b[j]? = some x) : Runs Try.prog 0 (loopN Try.prog 41 0) (St.as (ceD_E a b j) 26) (.normal) (St.as (ceD_E a b (j+1)) 26) := by
  refine round_wp (p := condP (decide ((↑j : Int) < (↑a.length : Int))) (((0 : Int) ≤ (↑j : Int)) ∧ (((List.map ceD a)[(↑j : Int).toNat]? = some (D.agg [D.bool x.v, D.int IntKind.i64 x.x, D.int IntKind.i64 x.l])) ∧ (((0 : Int) ≤ (↑j : Int)) ∧ (((List.map ceD b)[(↑j : Int).toNat]? = some (D.agg [D.bool x.v, D.int IntKind.i64 x.x, D.int IntKind.i64 x.l])) ∧ (((D.bool !(x.v == x.v && (x.x == x.x && (x.l == x.l && true)))) = D.bool false) ∧ ((AV.d (D.sl (List.map ceD a)) = AV.d (D.sl (List.map ceD a))) ∧ ((AV.d (D.sl (List.map ceD b)) = AV.d (D.sl (List.map ceD b))) ∧ ((AV.d (D.int IntKind.i64 (IntKind.i64.wrap ((↑j : Int) + (1 : Int)))) = AV.d (D.int IntKind.i64 (↑(j + (1 : Nat)) : Int))) ∧ ((AV.d (D.int IntKind.i64 (↑a.length : Int)) = AV.d (D.int IntKind.i64 (↑a.length : Int))) ∧ (True)))))))))) (False)) (h := {els := [(16, .el (ceD x)), (20, .el (ceD x))], H := [(6, [(8, .val (.bool false))])]}) (subs := []) (ws := []) (ρ := []) (by kernel_rfl) ?_
  have hj := get_lt hx
  have hj2 := get_lt hy
  have hi := inc_i64 (j := j) (by omega)
  simp only [List.length_map, hi]
  refine condP_t (by rw [decide_eq_true_eq]; omega) ?_
  repeat' (first | with_reducible exact True.intro | with_reducible refine And.intro ?_ ?_ | with_reducible refine condP_dec (fun _ => ?_) (fun _ => ?_) | with_reducible refine condP_eq (fun _ => ?_) (fun _ => ?_) | with_reducible refine condP_ne (fun _ => ?_) (fun _ => ?_) | with_reducible refine condP_not (condP_dec (fun _ => ?_) (fun _ => ?_)) | with_reducible refine condP_not (condP_eq (fun _ => ?_) (fun _ => ?_)) | with_reducible refine condP_not (condP_intro (fun _ => ?_) (fun _ => ?_)) | with_reducible refine condP_intro (fun _ => ?_) (fun _ => ?_))
  all_goals first | exact el_map hx rfl | exact el_map hy rfl | rfl | omega | (refine congrArg D.bool ?_; simp; done) | (exfalso; simp_all; done) | (refine congrArg D.bool ?_; rw [ceD_ne hne]; rfl) | (exfalso; have hq := ceD_ne hne; simp_all; done) | skip

set_option maxRecDepth 100000 in
set_option maxHeartbeats 1000000 in
theorem ceD_ee (a b : List Ce) (hl : a.length < 1073741824) (j : Nat) (x y : Ce) (hx : a[j]? = some x) (hy : b[j]? = some y) (hne : x ≠ y) : Runs Try.prog 0 (loopN Try.prog 41 0) (St.as (ceD_E a b j) 26) (.ret) (St.as (ceD_O) 26) := by
  refine round_wp (p := condP (decide ((↑j : Int) < (↑a.length : Int))) (((0 : Int) ≤ (↑j : Int)) ∧ (((List.map ceD a)[(↑j : Int).toNat]? = some (D.agg [D.bool x.v, D.int IntKind.i64 x.x, D.int IntKind.i64 x.l])) ∧ (((0 : Int) ≤ (↑j : Int)) ∧ (((List.map ceD b)[(↑j : Int).toNat]? = some (D.agg [D.bool y.v, D.int IntKind.i64 y.x, D.int IntKind.i64 y.l])) ∧ (((D.bool !(x.v == y.v && (x.x == y.x && (x.l == y.l && true)))) = D.bool true) ∧ ((AV.d (D.bool false) = AV.d (D.bool false)) ∧ (True))))))) (False)) (h := {els := [(16, .el (ceD x)), (20, .el (ceD y))], H := [(6, [(8, .val (.bool true))])]}) (subs := []) (ws := []) (ρ := []) (by kernel_rfl) ?_
  have hj := get_lt hx
  have hj2 := get_lt hy
  have hi := inc_i64 (j := j) (by omega)
  simp only [List.length_map, hi]
  refine condP_t (by rw [decide_eq_true_eq]; omega) ?_
  repeat' (first | with_reducible exact True.intro | with_reducible refine And.intro ?_ ?_ | with_reducible refine condP_dec (fun _ => ?_) (fun _ => ?_) | with_reducible refine condP_eq (fun _ => ?_) (fun _ => ?_) | with_reducible refine condP_ne (fun _ => ?_) (fun _ => ?_) | with_reducible refine condP_not (condP_dec (fun _ => ?_) (fun _ => ?_)) | with_reducible refine condP_not (condP_eq (fun _ => ?_) (fun _ => ?_)) | with_reducible refine condP_not (condP_intro (fun _ => ?_) (fun _ => ?_)) | with_reducible refine condP_intro (fun _ => ?_) (fun _ => ?_))
  all_goals first | exact el_map hx rfl | exact el_map hy rfl | rfl | omega | (refine congrArg D.bool ?_; simp; done) | (exfalso; simp_all; done) | (refine congrArg D.bool ?_; rw [ceD_ne hne]; rfl) | (exfalso; have hq := ceD_ne hne; simp_all; done) | skip

set_option maxRecDepth 100000 in
set_option maxHeartbeats 1000000 in
theorem ceD_eq' (a b : List Ce) : Runs Try.prog 0 (loopN Try.prog 41 0) (St.as (ceD_E a b a.length) 26) (.exit 0) (St.as (ceD_E a b a.length) 26) := by
  refine round_wp (p := condP (decide ((↑a.length : Int) < (↑a.length : Int))) (False) ((AV.d (D.sl (List.map ceD a)) = AV.d (D.sl (List.map ceD a))) ∧ ((AV.d (D.sl (List.map ceD b)) = AV.d (D.sl (List.map ceD b))) ∧ ((AV.d (D.int IntKind.i64 (↑a.length : Int)) = AV.d (D.int IntKind.i64 (↑a.length : Int))) ∧ ((AV.d (D.int IntKind.i64 (↑a.length : Int)) = AV.d (D.int IntKind.i64 (↑a.length : Int))) ∧ (True)))))) (h := {}) (subs := []) (ws := []) (ρ := []) (by kernel_rfl) ?_
  repeat' (first | with_reducible exact True.intro | with_reducible refine And.intro ?_ ?_ | with_reducible refine condP_dec (fun _ => ?_) (fun _ => ?_) | with_reducible refine condP_eq (fun _ => ?_) (fun _ => ?_) | with_reducible refine condP_ne (fun _ => ?_) (fun _ => ?_) | with_reducible refine condP_not (condP_dec (fun _ => ?_) (fun _ => ?_)) | with_reducible refine condP_not (condP_eq (fun _ => ?_) (fun _ => ?_)) | with_reducible refine condP_not (condP_intro (fun _ => ?_) (fun _ => ?_)) | with_reducible refine condP_intro (fun _ => ?_) (fun _ => ?_))
  all_goals (try simp only [List.length_map, AV.d.injEq, D.int.injEq, D.bool.injEq, D.str.injEq, D.sl.injEq, true_and, and_true, decide_eq_true_eq, decide_eq_false_iff_not, decide_eq_decide])
  all_goals (try simp only [List.length_map] at *)
  all_goals first | rfl | omega

set_option maxRecDepth 100000 in
set_option maxHeartbeats 1000000 in
theorem ceD_el (a b : List Ce) (h : a.length ≠ b.length) : FnOK Try.prog 41 ([.d (.sl (a.map ceD)), .d (.sl (b.map ceD))]) ([]) (.d (.bool false)) ([]) := by
  refine fnOK_wp (p := condP ((↑(List.map ceD a).length : Int) != (↑(List.map ceD b).length : Int)) ((AV.d (D.bool false) = AV.d (D.bool false)) ∧ (True)) ((AV.d (D.sl (List.map ceD a)) = AV.d (D.sl (List.map ceD a))) ∧ ((AV.d (D.sl (List.map ceD b)) = AV.d (D.sl (List.map ceD b))) ∧ ((AV.d (D.int IntKind.i64 (0 : Int)) = AV.d (D.int IntKind.i64 (0 : Int))) ∧ ((AV.d (D.int IntKind.i64 (↑(List.map ceD a).length : Int)) = AV.d (D.int IntKind.i64 (↑a.length : Int))) ∧ ((LoopsS Try.prog (0 : Nat) (loopN Try.prog (41 : Nat) (0 : Nat)) (ceD_E a b (0 : Nat)) Exit.ret ceD_O (26 : Nat)) ∧ ((AV.d (D.bool false) = AV.d (D.bool false)) ∧ (True)))))))) (h := {}) (subs := [⟨[], [], ceD_E a b 0, .ret, ceD_O⟩]) (ws := []) (ρ := []) (by kernel_rfl) ?_
  simp only [List.length_map]
  refine condP_t (by simp; omega) ?_
  first | trivial | exact ⟨rfl, trivial⟩

set_option maxRecDepth 100000 in
set_option maxHeartbeats 1000000 in
theorem ceD_ey (a b : List Ce) (h : a.length = b.length) (hL : Loops Try.prog 0 (loopN Try.prog 41 0) ((ceD_E a b 0).as 26) (.exit 0) ((ceD_E a b a.length).as 26)) : FnOK Try.prog 41 ([.d (.sl (a.map ceD)), .d (.sl (b.map ceD))]) ([]) (.d (.bool true)) ([]) := by
  refine fnOK_wp (p := (D.bool ((↑(List.map ceD a).length : Int) != (↑(List.map ceD b).length : Int)) = D.bool false) ∧ ((AV.d (D.sl (List.map ceD a)) = AV.d (D.sl (List.map ceD a))) ∧ ((AV.d (D.sl (List.map ceD b)) = AV.d (D.sl (List.map ceD b))) ∧ ((AV.d (D.int IntKind.i64 (0 : Int)) = AV.d (D.int IntKind.i64 (0 : Int))) ∧ ((AV.d (D.int IntKind.i64 (↑(List.map ceD a).length : Int)) = AV.d (D.int IntKind.i64 (↑a.length : Int))) ∧ ((LoopsS Try.prog (0 : Nat) (loopN Try.prog (41 : Nat) (0 : Nat)) (ceD_E a b (0 : Nat)) (Exit.exit (0 : Nat)) (ceD_E a b a.length) (26 : Nat)) ∧ ((AV.d (D.bool true) = AV.d (D.bool true)) ∧ (True)))))))) (h := {H := [(1, [(4, .val (.bool false))])]}) (subs := [⟨[], [], ceD_E a b 0, .exit 0, ceD_E a b a.length⟩]) (ws := []) (ρ := []) (by kernel_rfl) ?_
  simp only [List.length_map]
  repeat' (first | with_reducible exact True.intro | with_reducible refine And.intro ?_ ?_ | with_reducible refine condP_dec (fun _ => ?_) (fun _ => ?_) | with_reducible refine condP_eq (fun _ => ?_) (fun _ => ?_) | with_reducible refine condP_ne (fun _ => ?_) (fun _ => ?_) | with_reducible refine condP_not (condP_dec (fun _ => ?_) (fun _ => ?_)) | with_reducible refine condP_not (condP_eq (fun _ => ?_) (fun _ => ?_)) | with_reducible refine condP_not (condP_intro (fun _ => ?_) (fun _ => ?_)) | with_reducible refine condP_intro (fun _ => ?_) (fun _ => ?_))
  all_goals first | exact hL | rfl | exact dno (by omega) | (exfalso; omega) | (refine congrArg D.bool ?_; simp; omega) | skip

set_option maxRecDepth 100000 in
set_option maxHeartbeats 1000000 in
theorem ceD_en (a b : List Ce) (h : a.length = b.length) (hL : Loops Try.prog 0 (loopN Try.prog 41 0) ((ceD_E a b 0).as 26) .ret (ceD_O.as 26)) : FnOK Try.prog 41 ([.d (.sl (a.map ceD)), .d (.sl (b.map ceD))]) ([]) (.d (.bool false)) ([]) := by
  refine fnOK_wp (p := (D.bool ((↑(List.map ceD a).length : Int) != (↑(List.map ceD b).length : Int)) = D.bool false) ∧ ((AV.d (D.sl (List.map ceD a)) = AV.d (D.sl (List.map ceD a))) ∧ ((AV.d (D.sl (List.map ceD b)) = AV.d (D.sl (List.map ceD b))) ∧ ((AV.d (D.int IntKind.i64 (0 : Int)) = AV.d (D.int IntKind.i64 (0 : Int))) ∧ ((AV.d (D.int IntKind.i64 (↑(List.map ceD a).length : Int)) = AV.d (D.int IntKind.i64 (↑a.length : Int))) ∧ ((LoopsS Try.prog (0 : Nat) (loopN Try.prog (41 : Nat) (0 : Nat)) (ceD_E a b (0 : Nat)) Exit.ret ceD_O (26 : Nat)) ∧ ((AV.d (D.bool false) = AV.d (D.bool false)) ∧ (True)))))))) (h := {H := [(1, [(4, .val (.bool false))])]}) (subs := [⟨[], [], ceD_E a b 0, .ret, ceD_O⟩]) (ws := []) (ρ := []) (by kernel_rfl) ?_
  simp only [List.length_map]
  repeat' (first | with_reducible exact True.intro | with_reducible refine And.intro ?_ ?_ | with_reducible refine condP_dec (fun _ => ?_) (fun _ => ?_) | with_reducible refine condP_eq (fun _ => ?_) (fun _ => ?_) | with_reducible refine condP_ne (fun _ => ?_) (fun _ => ?_) | with_reducible refine condP_not (condP_dec (fun _ => ?_) (fun _ => ?_)) | with_reducible refine condP_not (condP_eq (fun _ => ?_) (fun _ => ?_)) | with_reducible refine condP_not (condP_intro (fun _ => ?_) (fun _ => ?_)) | with_reducible refine condP_intro (fun _ => ?_) (fun _ => ?_))
  all_goals first | exact hL | rfl | exact dno (by omega) | (exfalso; omega) | (refine congrArg D.bool ?_; simp; omega) | skip

theorem ceD_equal (a b : List Ce) (hl : a.length < 1073741824) : FnOK Try.prog 41 [.d (.sl (a.map ceD)), .d (.sl (b.map ceD))] [] (.d (.bool (decide (a = b)))) [] := by
  by_cases h : a.length = b.length
  · rcases diff_or a b h with e | ⟨m, x, y, h1, h2, h3, h4⟩
    · rw [decide_eq_true e]
      refine ceD_ey a b h (loops_n (I := fun j => (ceD_E a b j).as 26) (by simp) a.length 0 (by omega) (fun j _ hj => ceD_er a b hl j a[j] (get_of hj) (by rw [← e]; exact get_of hj)) (ceD_eq' a b))
    · have hm := get_lt h1
      rw [decide_eq_false (by rintro rfl; rw [h1] at h2; cases h2; exact h3 rfl)]
      exact ceD_en a b h (loops_n (I := fun j => (ceD_E a b j).as 26) (by simp) m 0 (by omega) (fun j _ hj => ceD_er a b hl j (a[j]'(by omega)) (get_of _) (h4 j _ hj (get_of _))) (ceD_ee a b hl m x y h1 h2 h3))
  · rw [decide_eq_false (by rintro rfl; exact h rfl)]; exact ceD_el a b h


def ceD_IO (m : Int) : St := ⟨[(4, .d (.int .i64 m))], []⟩

def ceD_IF (g : Nat) (l : List Ce) (j : Nat) : St := ⟨[(0, .d (.sl (l.map ceD))), (1, .fn g []), (7, .d (.int .i64 l.length)), (8, .d (.int .i64 j))], []⟩
set_option maxRecDepth 100000 in
set_option maxHeartbeats 1000000 in
theorem ceD_irF (g : Nat) (l : List Ce) (hl : l.length < 1073741824) (j : Nat) (x : Ce) (hn : l[j]? = some x) (hx : FnOK Try.prog g [.d (ceD x)] [] (.d (.bool false)) []) : Runs Try.prog 0 (loopN Try.prog 43 0) (St.as (ceD_IF g l j) 19) (.normal) (St.as (ceD_IF g l (j+1)) 19) := by
  refine round_wp (p := condP (decide ((↑j : Int) < (↑l.length : Int))) (((0 : Int) ≤ (↑j : Int)) ∧ (((List.map ceD l)[(↑j : Int).toNat]? = some (D.agg [D.bool x.v, D.int IntKind.i64 x.x, D.int IntKind.i64 x.l])) ∧ ((FnOK Try.prog g [AV.d (D.agg [D.bool x.v, D.int IntKind.i64 x.x, D.int IntKind.i64 x.l])] [] (AV.d (D.bool false)) []) ∧ ((AV.d (D.sl (List.map ceD l)) = AV.d (D.sl (List.map ceD l))) ∧ ((AV.fn g [] = AV.fn g []) ∧ ((AV.d (D.int IntKind.i64 (↑l.length : Int)) = AV.d (D.int IntKind.i64 (↑l.length : Int))) ∧ ((AV.d (D.int IntKind.i64 (IntKind.i64.wrap ((↑j : Int) + (1 : Int)))) = AV.d (D.int IntKind.i64 (↑(j + (1 : Nat)) : Int))) ∧ (True)))))))) (False)) (h := {els := [(12, .el (ceD x)), (11, .call [] (.d (.bool false)) [])]}) (subs := []) (ws := []) (ρ := []) (by kernel_rfl) ?_
  have hj := get_lt hn
  have hi := inc_i64 (j := j) (by omega)
  rw [hi]
  refine condP_t (by rw [decide_eq_true_eq]; omega) ?_
  repeat' (first | with_reducible exact True.intro | with_reducible refine And.intro ?_ ?_ | with_reducible refine condP_dec (fun _ => ?_) (fun _ => ?_) | with_reducible refine condP_eq (fun _ => ?_) (fun _ => ?_) | with_reducible refine condP_ne (fun _ => ?_) (fun _ => ?_) | with_reducible refine condP_not (condP_dec (fun _ => ?_) (fun _ => ?_)) | with_reducible refine condP_not (condP_eq (fun _ => ?_) (fun _ => ?_)) | with_reducible refine condP_not (condP_intro (fun _ => ?_) (fun _ => ?_)) | with_reducible refine condP_intro (fun _ => ?_) (fun _ => ?_))
  all_goals first | exact hx | exact el_map hn rfl | rfl | omega | skip

set_option maxRecDepth 100000 in
set_option maxHeartbeats 1000000 in
theorem ceD_ieF (g : Nat) (l : List Ce) (hl : l.length < 1073741824) (j : Nat) (x : Ce) (hn : l[j]? = some x) (hx : FnOK Try.prog g [.d (ceD x)] [] (.d (.bool true)) []) : Runs Try.prog 0 (loopN Try.prog 43 0) (St.as (ceD_IF g l j) 19) (.ret) (St.as (ceD_IO j) 19) := by
  refine round_wp (p := condP (decide ((↑j : Int) < (↑l.length : Int))) (((0 : Int) ≤ (↑j : Int)) ∧ (((List.map ceD l)[(↑j : Int).toNat]? = some (D.agg [D.bool x.v, D.int IntKind.i64 x.x, D.int IntKind.i64 x.l])) ∧ ((FnOK Try.prog g [AV.d (D.agg [D.bool x.v, D.int IntKind.i64 x.x, D.int IntKind.i64 x.l])] [] (AV.d (D.bool true)) []) ∧ ((AV.d (D.int IntKind.i64 (↑j : Int)) = AV.d (D.int IntKind.i64 (↑j : Int))) ∧ (True))))) (False)) (h := {els := [(12, .el (ceD x)), (11, .call [] (.d (.bool true)) [])]}) (subs := []) (ws := []) (ρ := []) (by kernel_rfl) ?_
  have hj := get_lt hn
  refine condP_t (by rw [decide_eq_true_eq]; omega) ?_
  repeat' (first | with_reducible exact True.intro | with_reducible refine And.intro ?_ ?_ | with_reducible refine condP_dec (fun _ => ?_) (fun _ => ?_) | with_reducible refine condP_eq (fun _ => ?_) (fun _ => ?_) | with_reducible refine condP_ne (fun _ => ?_) (fun _ => ?_) | with_reducible refine condP_not (condP_dec (fun _ => ?_) (fun _ => ?_)) | with_reducible refine condP_not (condP_eq (fun _ => ?_) (fun _ => ?_)) | with_reducible refine condP_not (condP_intro (fun _ => ?_) (fun _ => ?_)) | with_reducible refine condP_intro (fun _ => ?_) (fun _ => ?_))
  all_goals first | exact hx | exact el_map hn rfl | rfl | omega | skip

set_option maxRecDepth 100000 in
set_option maxHeartbeats 1000000 in
theorem ceD_iqF (g : Nat) (l : List Ce) : Runs Try.prog 0 (loopN Try.prog 43 0) (St.as (ceD_IF g l l.length) 19) (.exit 0) (St.as (ceD_IF g l l.length) 19) := by
  refine round_wp (p := condP (decide ((↑l.length : Int) < (↑l.length : Int))) (False) ((AV.d (D.sl (List.map ceD l)) = AV.d (D.sl (List.map ceD l))) ∧ ((AV.fn g [] = AV.fn g []) ∧ ((AV.d (D.int IntKind.i64 (↑l.length : Int)) = AV.d (D.int IntKind.i64 (↑l.length : Int))) ∧ ((AV.d (D.int IntKind.i64 (↑l.length : Int)) = AV.d (D.int IntKind.i64 (↑l.length : Int))) ∧ (True)))))) (h := {}) (subs := []) (ws := []) (ρ := []) (by kernel_rfl) ?_
  repeat' (first | with_reducible exact True.intro | with_reducible refine And.intro ?_ ?_ | with_reducible refine condP_dec (fun _ => ?_) (fun _ => ?_) | with_reducible refine condP_eq (fun _ => ?_) (fun _ => ?_) | with_reducible refine condP_ne (fun _ => ?_) (fun _ => ?_) | with_reducible refine condP_not (condP_dec (fun _ => ?_) (fun _ => ?_)) | with_reducible refine condP_not (condP_eq (fun _ => ?_) (fun _ => ?_)) | with_reducible refine condP_not (condP_intro (fun _ => ?_) (fun _ => ?_)) | with_reducible refine condP_intro (fun _ => ?_) (fun _ => ?_))
  all_goals (try simp only [List.length_map, AV.d.injEq, D.int.injEq, D.bool.injEq, D.str.injEq, D.sl.injEq, true_and, and_true, decide_eq_true_eq, decide_eq_false_iff_not, decide_eq_decide])
  all_goals (try simp only [List.length_map] at *)
  all_goals first | rfl | omega

set_option maxRecDepth 100000 in
set_option maxHeartbeats 1000000 in
theorem ceD_inF (g : Nat) (l : List Ce) (hL : Loops Try.prog 0 (loopN Try.prog 43 0) ((ceD_IF g l 0).as 19) (.exit 0) ((ceD_IF g l l.length).as 19)) : FnOK Try.prog 43 ([.d (.sl (l.map ceD)), .fn g []]) ([]) (.d (.int .i64 (-1))) ([]) := by
  refine fnOK_wp (p := (AV.d (D.sl (List.map ceD l)) = AV.d (D.sl (List.map ceD l))) ∧ ((AV.fn g [] = AV.fn g []) ∧ ((AV.d (D.int IntKind.i64 (↑(List.map ceD l).length : Int)) = AV.d (D.int IntKind.i64 (↑l.length : Int))) ∧ ((AV.d (D.int IntKind.i64 (0 : Int)) = AV.d (D.int IntKind.i64 (0 : Int))) ∧ ((LoopsS Try.prog (0 : Nat) (loopN Try.prog (43 : Nat) (0 : Nat)) (ceD_IF g l (0 : Nat)) (Exit.exit (0 : Nat)) (ceD_IF g l l.length) (19 : Nat)) ∧ ((AV.d (D.int IntKind.i64 (-1 : Int)) = AV.d (D.int IntKind.i64 (-1 : Int))) ∧ (True))))))) (h := {}) (subs := [⟨[], [], ceD_IF g l 0, .exit 0, ceD_IF g l l.length⟩]) (ws := []) (ρ := []) (by kernel_rfl) ?_
  simp only [List.length_map]
  repeat' (first | with_reducible exact True.intro | with_reducible refine And.intro ?_ ?_ | with_reducible refine condP_dec (fun _ => ?_) (fun _ => ?_) | with_reducible refine condP_eq (fun _ => ?_) (fun _ => ?_) | with_reducible refine condP_ne (fun _ => ?_) (fun _ => ?_) | with_reducible refine condP_not (condP_dec (fun _ => ?_) (fun _ => ?_)) | with_reducible refine condP_not (condP_eq (fun _ => ?_) (fun _ => ?_)) | with_reducible refine condP_not (condP_intro (fun _ => ?_) (fun _ => ?_)) | with_reducible refine condP_intro (fun _ => ?_) (fun _ => ?_))
  all_goals first | exact hL | rfl | skip

set_option maxRecDepth 100000 in
set_option maxHeartbeats 1000000 in
theorem ceD_iyF (g : Nat) (l : List Ce) (m : Nat) (hL : Loops Try.prog 0 (loopN Try.prog 43 0) ((ceD_IF g l 0).as 19) .ret ((ceD_IO m).as 19)) : FnOK Try.prog 43 ([.d (.sl (l.map ceD)), .fn g []]) ([]) (.d (.int .i64 m)) ([]) := by
  refine fnOK_wp (p := (AV.d (D.sl (List.map ceD l)) = AV.d (D.sl (List.map ceD l))) ∧ ((AV.fn g [] = AV.fn g []) ∧ ((AV.d (D.int IntKind.i64 (↑(List.map ceD l).length : Int)) = AV.d (D.int IntKind.i64 (↑l.length : Int))) ∧ ((AV.d (D.int IntKind.i64 (0 : Int)) = AV.d (D.int IntKind.i64 (0 : Int))) ∧ ((LoopsS Try.prog (0 : Nat) (loopN Try.prog (43 : Nat) (0 : Nat)) (ceD_IF g l (0 : Nat)) Exit.ret (ceD_IO (↑m : Int)) (19 : Nat)) ∧ ((AV.d (D.int IntKind.i64 (↑m : Int)) = AV.d (D.int IntKind.i64 (↑m : Int))) ∧ (True))))))) (h := {}) (subs := [⟨[], [], ceD_IF g l 0, .ret, ceD_IO m⟩]) (ws := []) (ρ := []) (by kernel_rfl) ?_
  simp only [List.length_map]
  repeat' (first | with_reducible exact True.intro | with_reducible refine And.intro ?_ ?_ | with_reducible refine condP_dec (fun _ => ?_) (fun _ => ?_) | with_reducible refine condP_eq (fun _ => ?_) (fun _ => ?_) | with_reducible refine condP_ne (fun _ => ?_) (fun _ => ?_) | with_reducible refine condP_not (condP_dec (fun _ => ?_) (fun _ => ?_)) | with_reducible refine condP_not (condP_eq (fun _ => ?_) (fun _ => ?_)) | with_reducible refine condP_not (condP_intro (fun _ => ?_) (fun _ => ?_)) | with_reducible refine condP_intro (fun _ => ?_) (fun _ => ?_))
  all_goals first | exact hL | rfl | skip

theorem ceD_indexF (g : Nat) (F : Ce → Bool) (l : List Ce) (hl : l.length < 1073741824) (hF : ∀ x ∈ l, FnOK Try.prog g [.d (ceD x)] [] (.d (.bool (F x))) []) : ∃ k : Int, decide (k ≥ 0) = l.any F ∧ FnOK Try.prog 43 [.d (.sl (l.map ceD)), .fn g []] [] (.d (.int .i64 k)) [] := by
  rcases all_or (fun x => F x = false) l with h | ⟨m, x, h1, h2, h3⟩
  · refine ⟨-1, ?_, ceD_inF g l (loops_n (I := fun j => (ceD_IF g l j).as 19) (by simp) l.length 0 (by omega) (fun j _ hj => ceD_irF g l hl j l[j] (get_of hj) (by have := hF _ (List.getElem_mem hj); rw [h _ (List.getElem_mem hj)] at this; exact this)) (ceD_iqF g l))⟩
    have : l.any F = false := by rw [List.any_eq_false]; intro x hx; rw [h x hx]; simp
    rw [this]; rfl
  · have hm := get_lt h1
    have h2 : F x = true := by cases hw : F x; exact absurd hw h2; rfl
    refine ⟨(m : Int), ?_, ceD_iyF g l m (loops_n (I := fun j => (ceD_IF g l j).as 19) (by simp) m 0 (by omega) (fun j _ hj => ceD_irF g l hl j (l[j]'(by omega)) (get_of _) (by have := hF (l[j]'(by omega)) (List.getElem_mem _); rw [h3 j _ hj (get_of _)] at this; exact this)) (ceD_ieF g l hl m x h1 (by have := hF _ (get_mem h1); rw [h2] at this; exact this)))⟩
    have : l.any F = true := List.any_eq_true.2 ⟨x, get_mem h1, h2⟩
    rw [this]; exact decide_eq_true (by omega)
set_option maxRecDepth 100000 in
set_option maxHeartbeats 1000000 in
theorem ceD_cfF (g : Nat) (l : List Ce) (k : Int) (h : FnOK Try.prog 43 [.d (.sl (l.map ceD)), .fn g []] [] (.d (.int .i64 k)) []) : FnOK Try.prog 34 ([.d (.sl (l.map ceD)), .fn g []]) ([]) (.d (.bool (decide (k ≥ 0)))) ([]) := by
  refine fnOK_wp (p := (FnOK Try.prog (43 : Nat) [AV.d (D.sl (List.map ceD l)), AV.fn g []] [] (AV.d (D.int IntKind.i64 k)) []) ∧ ((AV.d (D.bool (decide (k ≥ (0 : Int)))) = AV.d (D.bool (decide (k ≥ (0 : Int))))) ∧ (True))) (h := {H := [(1, [(2, .call [] (.d (.int .i64 k)) [])])]}) (subs := []) (ws := []) (ρ := []) (by kernel_rfl) ?_
  exact ⟨h, rfl, trivial⟩

theorem ceD_containsF (g : Nat) (F : Ce → Bool) (l : List Ce) (hl : l.length < 1073741824) (hF : ∀ x ∈ l, FnOK Try.prog g [.d (ceD x)] [] (.d (.bool (F x))) []) : FnOK Try.prog 34 [.d (.sl (l.map ceD)), .fn g []] [] (.d (.bool (l.any F))) [] := by
  obtain ⟨k, h1, h2⟩ := ceD_indexF g F l hl hF
  rw [← h1]
  exact ceD_cfF g l k h2

def ceD_IM (g : Nat) (st : D) (l : List Ce) (j : Nat) : St := ⟨[(0, .d (.sl (l.map ceD))), (1, .meth g [.d st]), (7, .d (.int .i64 l.length)), (8, .d (.int .i64 j))], []⟩
set_option maxRecDepth 100000 in
set_option maxHeartbeats 1000000 in
theorem ceD_irM (g : Nat) (st : D) (l : List Ce) (hl : l.length < 1073741824) (j : Nat) (x : Ce) (hn : l[j]? = some x) (hx : FnOK Try.prog g [.d st, .d (ceD x)] [] (.d (.bool false)) []) : Runs Try.prog 0 (loopN Try.prog 43 0) (St.as (ceD_IM g st l j) 19) (.normal) (St.as (ceD_IM g st l (j+1)) 19) := by
  refine round_wp (p := condP (decide ((↑j : Int) < (↑l.length : Int))) (((0 : Int) ≤ (↑j : Int)) ∧ (((List.map ceD l)[(↑j : Int).toNat]? = some (D.agg [D.bool x.v, D.int IntKind.i64 x.x, D.int IntKind.i64 x.l])) ∧ ((FnOK Try.prog g [AV.d st, AV.d (D.agg [D.bool x.v, D.int IntKind.i64 x.x, D.int IntKind.i64 x.l])] [] (AV.d (D.bool false)) []) ∧ ((AV.d (D.sl (List.map ceD l)) = AV.d (D.sl (List.map ceD l))) ∧ ((AV.meth g [AV.d st] = AV.meth g [AV.d st]) ∧ ((AV.d (D.int IntKind.i64 (↑l.length : Int)) = AV.d (D.int IntKind.i64 (↑l.length : Int))) ∧ ((AV.d (D.int IntKind.i64 (IntKind.i64.wrap ((↑j : Int) + (1 : Int)))) = AV.d (D.int IntKind.i64 (↑(j + (1 : Nat)) : Int))) ∧ (True)))))))) (False)) (h := {els := [(12, .el (ceD x)), (11, .call [] (.d (.bool false)) [])]}) (subs := []) (ws := []) (ρ := []) (by kernel_rfl) ?_
  have hj := get_lt hn
  have hi := inc_i64 (j := j) (by omega)
  rw [hi]
  refine condP_t (by rw [decide_eq_true_eq]; omega) ?_
  repeat' (first | with_reducible exact True.intro | with_reducible refine And.intro ?_ ?_ | with_reducible refine condP_dec (fun _ => ?_) (fun _ => ?_) | with_reducible refine condP_eq (fun _ => ?_) (fun _ => ?_) | with_reducible refine condP_ne (fun _ => ?_) (fun _ => ?_) | with_reducible refine condP_not (condP_dec (fun _ => ?_) (fun _ => ?_)) | with_reducible refine condP_not (condP_eq (fun _ => ?_) (fun _ => ?_)) | with_reducible refine condP_not (condP_intro (fun _ => ?_) (fun _ => ?_)) | with_reducible refine condP_intro (fun _ => ?_) (fun _ => ?_))
  all_goals first | exact hx | exact el_map hn rfl | rfl | omega | skip

set_option maxRecDepth 100000 in
set_option maxHeartbeats 1000000 in
theorem ceD_ieM (g : Nat) (st : D) (l : List Ce) (hl : l.length < 1073741824) (j : Nat) (x : Ce) (hn : l[j]? = some x) (hx : FnOK Try.prog g [.d st, .d (ceD x)] [] (.d (.bool true)) []) : Runs Try.prog 0 (loopN Try.prog 43 0) (St.as (ceD_IM g st l j) 19) (.ret) (St.as (ceD_IO j) 19) := by
  refine round_wp (p := condP (decide ((↑j : Int) < (↑l.length : Int))) (((0 : Int) ≤ (↑j : Int)) ∧ (((List.map ceD l)[(↑j : Int).toNat]? = some (D.agg [D.bool x.v, D.int IntKind.i64 x.x, D.int IntKind.i64 x.l])) ∧ ((FnOK Try.prog g [AV.d st, AV.d (D.agg [D.bool x.v, D.int IntKind.i64 x.x, D.int IntKind.i64 x.l])] [] (AV.d (D.bool true)) []) ∧ ((AV.d (D.int IntKind.i64 (↑j : Int)) = AV.d (D.int IntKind.i64 (↑j : Int))) ∧ (True))))) (False)) (h := {els := [(12, .el (ceD x)), (11, .call [] (.d (.bool true)) [])]}) (subs := []) (ws := []) (ρ := []) (by kernel_rfl) ?_
  have hj := get_lt hn
  refine condP_t (by rw [decide_eq_true_eq]; omega) ?_
  repeat' (first | with_reducible exact True.intro | with_reducible refine And.intro ?_ ?_ | with_reducible refine condP_dec (fun _ => ?_) (fun _ => ?_) | with_reducible refine condP_eq (fun _ => ?_) (fun _ => ?_) | with_reducible refine condP_ne (fun _ => ?_) (fun _ => ?_) | with_reducible refine condP_not (condP_dec (fun _ => ?_) (fun _ => ?_)) | with_reducible refine condP_not (condP_eq (fun _ => ?_) (fun _ => ?_)) | with_reducible refine condP_not (condP_intro (fun _ => ?_) (fun _ => ?_)) | with_reducible refine condP_intro (fun _ => ?_) (fun _ => ?_))
  all_goals first | exact hx | exact el_map hn rfl | rfl | omega | skip

set_option maxRecDepth 100000 in
set_option maxHeartbeats 1000000 in
theorem ceD_iqM (g : Nat) (st : D) (l : List Ce) : Runs Try.prog 0 (loopN Try.prog 43 0) (St.as (ceD_IM g st l l.length) 19) (.exit 0) (St.as (ceD_IM g st l l.length) 19) := by
  refine round_wp (p := condP (decide ((↑l.length : Int) < (↑l.length : Int))) (False) ((AV.d (D.sl (List.map ceD l)) = AV.d (D.sl (List.map ceD l))) ∧ ((AV.meth g [AV.d st] = AV.meth g [AV.d st]) ∧ ((AV.d (D.int IntKind.i64 (↑l.length : Int)) = AV.d (D.int IntKind.i64 (↑l.length : Int))) ∧ ((AV.d (D.int IntKind.i64 (↑l.length : Int)) = AV.d (D.int IntKind.i64 (↑l.length : Int))) ∧ (True)))))) (h := {}) (subs := []) (ws := []) (ρ := []) (by kernel_rfl) ?_
  repeat' (first | with_reducible exact True.intro | with_reducible refine And.intro ?_ ?_ | with_reducible refine condP_dec (fun _ => ?_) (fun _ => ?_) | with_reducible refine condP_eq (fun _ => ?_) (fun _ => ?_) | with_reducible refine condP_ne (fun _ => ?_) (fun _ => ?_) | with_reducible refine condP_not (condP_dec (fun _ => ?_) (fun _ => ?_)) | with_reducible refine condP_not (condP_eq (fun _ => ?_) (fun _ => ?_)) | with_reducible refine condP_not (condP_intro (fun _ => ?_) (fun _ => ?_)) | with_reducible refine condP_intro (fun _ => ?_) (fun _ => ?_))
  all_goals (try simp only [List.length_map, AV.d.injEq, D.int.injEq, D.bool.injEq, D.str.injEq, D.sl.injEq, true_and, and_true, decide_eq_true_eq, decide_eq_false_iff_not, decide_eq_decide])
  all_goals (try simp only [List.length_map] at *)
  all_goals first | rfl | omega

set_option maxRecDepth 100000 in
set_option maxHeartbeats 1000000 in
theorem ceD_inM (g : Nat) (st : D) (l : List Ce) (hL : Loops Try.prog 0 (loopN Try.prog 43 0) ((ceD_IM g st l 0).as 19) (.exit 0) ((ceD_IM g st l l.length).as 19)) : FnOK Try.prog 43 ([.d (.sl (l.map ceD)), .meth g [.d st]]) ([]) (.d (.int .i64 (-1))) ([]) := by
  refine fnOK_wp (p := (AV.d (D.sl (List.map ceD l)) = AV.d (D.sl (List.map ceD l))) ∧ ((AV.meth g [AV.d st] = AV.meth g [AV.d st]) ∧ ((AV.d (D.int IntKind.i64 (↑(List.map ceD l).length : Int)) = AV.d (D.int IntKind.i64 (↑l.length : Int))) ∧ ((AV.d (D.int IntKind.i64 (0 : Int)) = AV.d (D.int IntKind.i64 (0 : Int))) ∧ ((LoopsS Try.prog (0 : Nat) (loopN Try.prog (43 : Nat) (0 : Nat)) (ceD_IM g st l (0 : Nat)) (Exit.exit (0 : Nat)) (ceD_IM g st l l.length) (19 : Nat)) ∧ ((AV.d (D.int IntKind.i64 (-1 : Int)) = AV.d (D.int IntKind.i64 (-1 : Int))) ∧ (True))))))) (h := {}) (subs := [⟨[], [], ceD_IM g st l 0, .exit 0, ceD_IM g st l l.length⟩]) (ws := []) (ρ := []) (by kernel_rfl) ?_
  simp only [List.length_map]
  repeat' (first | with_reducible exact True.intro | with_reducible refine And.intro ?_ ?_ | with_reducible refine condP_dec (fun _ => ?_) (fun _ => ?_) | with_reducible refine condP_eq (fun _ => ?_) (fun _ => ?_) | with_reducible refine condP_ne (fun _ => ?_) (fun _ => ?_) | with_reducible refine condP_not (condP_dec (fun _ => ?_) (fun _ => ?_)) | with_reducible refine condP_not (condP_eq (fun _ => ?_) (fun _ => ?_)) | with_reducible refine condP_not (condP_intro (fun _ => ?_) (fun _ => ?_)) | with_reducible refine condP_intro (fun _ => ?_) (fun _ => ?_))
  all_goals first | exact hL | rfl | skip

set_option maxRecDepth 100000 in
set_option maxHeartbeats 1000000 in
theorem ceD_iyM (g : Nat) (st : D) (l : List Ce) (m : Nat) (hL : Loops Try.prog 0 (loopN Try.prog 43 0) ((ceD_IM g st l 0).as 19) .ret ((ceD_IO m).as 19)) : FnOK Try.prog 43 ([.d (.sl (l.map ceD)), .meth g [.d st]]) ([]) (.d (.int .i64 m)) ([]) := by
  refine fnOK_wp (p := (AV.d (D.sl (List.map ceD l)) = AV.d (D.sl (List.map ceD l))) ∧ ((AV.meth g [AV.d st] = AV.meth g [AV.d st]) ∧ ((AV.d (D.int IntKind.i64 (↑(List.map ceD l).length : Int)) = AV.d (D.int IntKind.i64 (↑l.length : Int))) ∧ ((AV.d (D.int IntKind.i64 (0 : Int)) = AV.d (D.int IntKind.i64 (0 : Int))) ∧ ((LoopsS Try.prog (0 : Nat) (loopN Try.prog (43 : Nat) (0 : Nat)) (ceD_IM g st l (0 : Nat)) Exit.ret (ceD_IO (↑m : Int)) (19 : Nat)) ∧ ((AV.d (D.int IntKind.i64 (↑m : Int)) = AV.d (D.int IntKind.i64 (↑m : Int))) ∧ (True))))))) (h := {}) (subs := [⟨[], [], ceD_IM g st l 0, .ret, ceD_IO m⟩]) (ws := []) (ρ := []) (by kernel_rfl) ?_
  simp only [List.length_map]
  repeat' (first | with_reducible exact True.intro | with_reducible refine And.intro ?_ ?_ | with_reducible refine condP_dec (fun _ => ?_) (fun _ => ?_) | with_reducible refine condP_eq (fun _ => ?_) (fun _ => ?_) | with_reducible refine condP_ne (fun _ => ?_) (fun _ => ?_) | with_reducible refine condP_not (condP_dec (fun _ => ?_) (fun _ => ?_)) | with_reducible refine condP_not (condP_eq (fun _ => ?_) (fun _ => ?_)) | with_reducible refine condP_not (condP_intro (fun _ => ?_) (fun _ => ?_)) | with_reducible refine condP_intro (fun _ => ?_) (fun _ => ?_))
  all_goals first | exact hL | rfl | skip

theorem ceD_indexM (g : Nat) (st : D) (F : Ce → Bool) (l : List Ce) (hl : l.length < 1073741824) (hF : ∀ x ∈ l, FnOK Try.prog g [.d st, .d (ceD x)] [] (.d (.bool (F x))) []) : ∃ k : Int, decide (k ≥ 0) = l.any F ∧ FnOK Try.prog 43 [.d (.sl (l.map ceD)), .meth g [.d st]] [] (.d (.int .i64 k)) [] := by
  rcases all_or (fun x => F x = false) l with h | ⟨m, x, h1, h2, h3⟩
  · refine ⟨-1, ?_, ceD_inM g st l (loops_n (I := fun j => (ceD_IM g st l j).as 19) (by simp) l.length 0 (by omega) (fun j _ hj => ceD_irM g st l hl j l[j] (get_of hj) (by have := hF _ (List.getElem_mem hj); rw [h _ (List.getElem_mem hj)] at this; exact this)) (ceD_iqM g st l))⟩
    have : l.any F = false := by rw [List.any_eq_false]; intro x hx; rw [h x hx]; simp
    rw [this]; rfl
  · have hm := get_lt h1
    have h2 : F x = true := by cases hw : F x; exact absurd hw h2; rfl
    refine ⟨(m : Int), ?_, ceD_iyM g st l m (loops_n (I := fun j => (ceD_IM g st l j).as 19) (by simp) m 0 (by omega) (fun j _ hj => ceD_irM g st l hl j (l[j]'(by omega)) (get_of _) (by have := hF (l[j]'(by omega)) (List.getElem_mem _); rw [h3 j _ hj (get_of _)] at this; exact this)) (ceD_ieM g st l hl m x h1 (by have := hF _ (get_mem h1); rw [h2] at this; exact this)))⟩
    have : l.any F = true := List.any_eq_true.2 ⟨x, get_mem h1, h2⟩
    rw [this]; exact decide_eq_true (by omega)
set_option maxRecDepth 100000 in
set_option maxHeartbeats 1000000 in
theorem ceD_cfM (g : Nat) (st : D) (l : List Ce) (k : Int) (h : FnOK Try.prog 43 [.d (.sl (l.map ceD)), .meth g [.d st]] [] (.d (.int .i64 k)) []) : FnOK Try.prog 34 ([.d (.sl (l.map ceD)), .meth g [.d st]]) ([]) (.d (.bool (decide (k ≥ 0)))) ([]) := by
  refine fnOK_wp (p := (FnOK Try.prog (43 : Nat) [AV.d (D.sl (List.map ceD l)), AV.meth g [AV.d st]] [] (AV.d (D.int IntKind.i64 k)) []) ∧ ((AV.d (D.bool (decide (k ≥ (0 : Int)))) = AV.d (D.bool (decide (k ≥ (0 : Int))))) ∧ (True))) (h := {H := [(1, [(2, .call [] (.d (.int .i64 k)) [])])]}) (subs := []) (ws := []) (ρ := []) (by kernel_rfl) ?_
  exact ⟨h, rfl, trivial⟩

theorem ceD_containsM (g : Nat) (st : D) (F : Ce → Bool) (l : List Ce) (hl : l.length < 1073741824) (hF : ∀ x ∈ l, FnOK Try.prog g [.d st, .d (ceD x)] [] (.d (.bool (F x))) []) : FnOK Try.prog 34 [.d (.sl (l.map ceD)), .meth g [.d st]] [] (.d (.bool (l.any F))) [] := by
  obtain ⟨k, h1, h2⟩ := ceD_indexM g st F l hl hF
  rw [← h1]
  exact ceD_cfM g st l k h2


/-! ### Small ones -/
set_option maxRecDepth 100000 in
set_option maxHeartbeats 1000000 in
theorem place33 (s : Ar) (n : Int) : FnOK Try.prog 33 ([.d (arD s), .d (.int .i64 n)]) ([]) (.d (.bool (aPlace s.l n))) ([]) := by
  refine fnOK_wp (p := condP (decide ((-1 : Int) ≤ n)) ((D.bool (decide ((-1 : Int) ≤ n)) = D.bool true) ∧ ((AV.d (D.bool (decide (n < (↑(List.map ceD s.l).length : Int)))) = AV.d (D.bool (aPlace s.l n))) ∧ (True))) ((D.bool (decide ((-1 : Int) ≤ n)) = D.bool false) ∧ ((AV.d (D.bool false) = AV.d (D.bool (aPlace s.l n))) ∧ (True)))) (h := {}) (subs := []) (ws := []) (ρ := []) (by kernel_rfl) ?_
  unfold aPlace
  repeat' (first | with_reducible exact True.intro | with_reducible refine And.intro ?_ ?_ | with_reducible refine condP_dec (fun _ => ?_) (fun _ => ?_) | with_reducible refine condP_eq (fun _ => ?_) (fun _ => ?_) | with_reducible refine condP_ne (fun _ => ?_) (fun _ => ?_) | with_reducible refine condP_not (condP_dec (fun _ => ?_) (fun _ => ?_)) | with_reducible refine condP_not (condP_eq (fun _ => ?_) (fun _ => ?_)) | with_reducible refine condP_not (condP_intro (fun _ => ?_) (fun _ => ?_)) | with_reducible refine condP_intro (fun _ => ?_) (fun _ => ?_))
  all_goals (try simp only [List.length_map, AV.d.injEq, D.int.injEq, D.bool.injEq, D.str.injEq, D.sl.injEq, true_and, and_true, decide_eq_true_eq, decide_eq_false_iff_not, decide_eq_decide])
  all_goals (try simp only [List.length_map] at *)
  all_goals first | rfl | omega | (rw [decide_eq_true_eq]; omega) | (rw [decide_eq_false_iff_not]; omega) | (refine decide_eq_decide.2 ⟨?_, ?_⟩ <;> intros <;> omega) | (refine (decide_eq_false ?_).symm; omega) | skip

set_option maxRecDepth 100000 in
set_option maxHeartbeats 1000000 in
theorem place38 (s : Ar) (n : Int) : FnOK Try.prog 38 ([.d (arD s), .d (.int .i64 n)]) ([]) (.d (.bool (aPlace s.l n))) ([]) := by
  refine fnOK_wp (p := condP (decide (n ≥ (-1 : Int))) ((D.bool (decide (n ≥ (-1 : Int))) = D.bool true) ∧ ((AV.d (D.bool (decide (n < (↑(List.map ceD s.l).length : Int)))) = AV.d (D.bool (aPlace s.l n))) ∧ (True))) ((D.bool (decide (n ≥ (-1 : Int))) = D.bool false) ∧ ((AV.d (D.bool false) = AV.d (D.bool (aPlace s.l n))) ∧ (True)))) (h := {}) (subs := []) (ws := []) (ρ := []) (by kernel_rfl) ?_
  unfold aPlace
  repeat' (first | with_reducible exact True.intro | with_reducible refine And.intro ?_ ?_ | with_reducible refine condP_dec (fun _ => ?_) (fun _ => ?_) | with_reducible refine condP_eq (fun _ => ?_) (fun _ => ?_) | with_reducible refine condP_ne (fun _ => ?_) (fun _ => ?_) | with_reducible refine condP_not (condP_dec (fun _ => ?_) (fun _ => ?_)) | with_reducible refine condP_not (condP_eq (fun _ => ?_) (fun _ => ?_)) | with_reducible refine condP_not (condP_intro (fun _ => ?_) (fun _ => ?_)) | with_reducible refine condP_intro (fun _ => ?_) (fun _ => ?_))
  all_goals (try simp only [List.length_map, AV.d.injEq, D.int.injEq, D.bool.injEq, D.str.injEq, D.sl.injEq, true_and, and_true, decide_eq_true_eq, decide_eq_false_iff_not, decide_eq_decide])
  all_goals (try simp only [List.length_map] at *)
  all_goals first | rfl | omega | (rw [decide_eq_true_eq]; omega) | (rw [decide_eq_false_iff_not]; omega) | (refine decide_eq_decide.2 ⟨?_, ?_⟩ <;> intros <;> omega) | (refine (decide_eq_false ?_).symm; omega) | skip

set_option maxRecDepth 100000 in
set_option maxHeartbeats 1000000 in
theorem strays35 (s : Ar) (c : Ce) : FnOK Try.prog 35 ([.d (arD s), .d (ceD c)]) ([]) (.d (.bool (aStray s.l c))) ([]) := by
  refine fnOK_wp (p := condP (!c.v) (((D.bool !c.v) = D.bool true) ∧ ((FnOK Try.prog (33 : Nat) [AV.d (D.agg [D.sl (List.map ceD s.l), D.int IntKind.i64 s.f, D.int IntKind.i64 s.u]), AV.d (D.int IntKind.i64 c.l)] [] (AV.d (D.bool (aPlace s.l c.l))) []) ∧ ((AV.d (D.bool !aPlace s.l c.l) = AV.d (D.bool (aStray s.l c))) ∧ (True)))) (((D.bool !c.v) = D.bool false) ∧ ((AV.d (D.bool false) = AV.d (D.bool (aStray s.l c))) ∧ (True)))) (h := {G := [(33, gAns (.d (.bool (aPlace s.l c.l))))]}) (subs := []) (ws := []) (ρ := []) (by kernel_rfl) ?_
  unfold aStray
  have h := place33 s c.l
  repeat' (first | with_reducible exact True.intro | with_reducible refine And.intro ?_ ?_ | with_reducible refine condP_dec (fun _ => ?_) (fun _ => ?_) | with_reducible refine condP_eq (fun _ => ?_) (fun _ => ?_) | with_reducible refine condP_ne (fun _ => ?_) (fun _ => ?_) | with_reducible refine condP_not (condP_dec (fun _ => ?_) (fun _ => ?_)) | with_reducible refine condP_not (condP_eq (fun _ => ?_) (fun _ => ?_)) | with_reducible refine condP_not (condP_intro (fun _ => ?_) (fun _ => ?_)) | with_reducible refine condP_intro (fun _ => ?_) (fun _ => ?_))
  all_goals first | exact h | rfl | (simp_all; done) | skip

set_option maxRecDepth 100000 in
set_option maxHeartbeats 1000000 in
theorem odd36 (c : Ce) : FnOK Try.prog 36 ([.d (ceD c)]) ([]) (.d (.bool (aOdd c))) ([]) := by
  refine fnOK_wp (p := condP (c.v) ((AV.d (D.bool (c.l != (0 : Int))) = AV.d (D.bool (aOdd c))) ∧ (True)) ((AV.d (D.bool (c.x != (0 : Int))) = AV.d (D.bool (aOdd c))) ∧ (True))) (h := {}) (subs := []) (ws := []) (ρ := []) (by kernel_rfl) ?_
  unfold aOdd
  repeat' (first | with_reducible exact True.intro | with_reducible refine And.intro ?_ ?_ | with_reducible refine condP_dec (fun _ => ?_) (fun _ => ?_) | with_reducible refine condP_eq (fun _ => ?_) (fun _ => ?_) | with_reducible refine condP_ne (fun _ => ?_) (fun _ => ?_) | with_reducible refine condP_not (condP_dec (fun _ => ?_) (fun _ => ?_)) | with_reducible refine condP_not (condP_eq (fun _ => ?_) (fun _ => ?_)) | with_reducible refine condP_not (condP_intro (fun _ => ?_) (fun _ => ?_)) | with_reducible refine condP_intro (fun _ => ?_) (fun _ => ?_))
  all_goals first | rfl | (simp_all; done) | skip

/-! ### The program's chain -/
def inD (l : List Int) : List D := l.map (D.int .i64)
def I45 (l : List Int) (x : Int) (j : Nat) : St := ⟨[(0, .d (.sl (inD l))), (1, .d (.int .i64 x)), (7, .d (.int .i64 l.length)), (8, .d (.int .i64 j))], []⟩
def O45 (m : Int) : St := ⟨[(4, .d (.int .i64 m))], []⟩
set_option maxRecDepth 100000 in
set_option maxHeartbeats 1000000 in
theorem r45 (l : List Int) (hl : l.length < 1073741824) (x : Int) (j : Nat) (y : Int) (hn : l[j]? = some y) (hx : x ≠ y) : Runs Try.prog 0 (loopN Try.prog 45 0) (St.as (I45 l x j) 19) (.normal) (St.as (I45 l x (j+1)) 19) := by
  refine round_wp (p := condP (decide ((↑j : Int) < (↑l.length : Int))) (((0 : Int) ≤ (↑j : Int)) ∧ (((inD l)[(↑j : Int).toNat]? = some (D.int IntKind.i64 y)) ∧ ((D.bool (x == y) = D.bool false) ∧ ((AV.d (D.sl (inD l)) = AV.d (D.sl (inD l))) ∧ ((AV.d (D.int IntKind.i64 x) = AV.d (D.int IntKind.i64 x)) ∧ ((AV.d (D.int IntKind.i64 (↑l.length : Int)) = AV.d (D.int IntKind.i64 (↑l.length : Int))) ∧ ((AV.d (D.int IntKind.i64 (IntKind.i64.wrap ((↑j : Int) + (1 : Int)))) = AV.d (D.int IntKind.i64 (↑(j + (1 : Nat)) : Int))) ∧ (True)))))))) (False)) (h := {els := [(12, .el (.int .i64 y))], H := [(4, [(5, .val (.bool false))])]}) (subs := []) (ws := []) (ρ := []) (by kernel_rfl) ?_
  have hj := get_lt hn
  have hi := inc_i64 (j := j) (by omega)
  have he : (inD l)[((j : Int)).toNat]? = some (.int .i64 y) := by unfold inD; exact el_map hn rfl
  try rw [hi]
  refine condP_t (by rw [decide_eq_true_eq]; omega) ?_
  repeat' (first | with_reducible exact True.intro | with_reducible refine And.intro ?_ ?_ | with_reducible refine condP_dec (fun _ => ?_) (fun _ => ?_) | with_reducible refine condP_eq (fun _ => ?_) (fun _ => ?_) | with_reducible refine condP_ne (fun _ => ?_) (fun _ => ?_) | with_reducible refine condP_not (condP_dec (fun _ => ?_) (fun _ => ?_)) | with_reducible refine condP_not (condP_eq (fun _ => ?_) (fun _ => ?_)) | with_reducible refine condP_not (condP_intro (fun _ => ?_) (fun _ => ?_)) | with_reducible refine condP_intro (fun _ => ?_) (fun _ => ?_))
  all_goals first | exact he | rfl | omega | (exfalso; omega) | (exfalso; simp_all; done) | (refine congrArg D.bool ?_; simpa using hx) | (refine congrArg D.bool ?_; simp; omega) | skip

set_option maxRecDepth 100000 in
set_option maxHeartbeats 1000000 in
theorem e45 (l : List Int) (hl : l.length < 1073741824) (x : Int) (j : Nat) (y : Int) (hn : l[j]? = some y) (hx : x = y) : Runs Try.prog 0 (loopN Try.prog 45 0) (St.as (I45 l x j) 19) (.ret) (St.as (O45 j) 19) := by
  refine round_wp (p := condP (decide ((↑j : Int) < (↑l.length : Int))) (((0 : Int) ≤ (↑j : Int)) ∧ (((inD l)[(↑j : Int).toNat]? = some (D.int IntKind.i64 y)) ∧ ((D.bool (x == y) = D.bool true) ∧ ((AV.d (D.int IntKind.i64 (↑j : Int)) = AV.d (D.int IntKind.i64 (↑j : Int))) ∧ (True))))) (False)) (h := {els := [(12, .el (.int .i64 y))], H := [(4, [(5, .val (.bool true))])]}) (subs := []) (ws := []) (ρ := []) (by kernel_rfl) ?_
  have hj := get_lt hn
  have hi := inc_i64 (j := j) (by omega)
  have he : (inD l)[((j : Int)).toNat]? = some (.int .i64 y) := by unfold inD; exact el_map hn rfl
  try rw [hi]
  refine condP_t (by rw [decide_eq_true_eq]; omega) ?_
  repeat' (first | with_reducible exact True.intro | with_reducible refine And.intro ?_ ?_ | with_reducible refine condP_dec (fun _ => ?_) (fun _ => ?_) | with_reducible refine condP_eq (fun _ => ?_) (fun _ => ?_) | with_reducible refine condP_ne (fun _ => ?_) (fun _ => ?_) | with_reducible refine condP_not (condP_dec (fun _ => ?_) (fun _ => ?_)) | with_reducible refine condP_not (condP_eq (fun _ => ?_) (fun _ => ?_)) | with_reducible refine condP_not (condP_intro (fun _ => ?_) (fun _ => ?_)) | with_reducible refine condP_intro (fun _ => ?_) (fun _ => ?_))
  all_goals first | exact he | rfl | omega | (exfalso; omega) | (exfalso; simp_all; done) | (refine congrArg D.bool ?_; simpa using hx) | (refine congrArg D.bool ?_; simp; omega) | skip

set_option maxRecDepth 100000 in
set_option maxHeartbeats 1000000 in
theorem q45 (l : List Int) (x : Int) : Runs Try.prog 0 (loopN Try.prog 45 0) (St.as (I45 l x l.length) 19) (.exit 0) (St.as (I45 l x l.length) 19) := by
  refine round_wp (p := condP (decide ((↑l.length : Int) < (↑l.length : Int))) (False) ((AV.d (D.sl (inD l)) = AV.d (D.sl (inD l))) ∧ ((AV.d (D.int IntKind.i64 x) = AV.d (D.int IntKind.i64 x)) ∧ ((AV.d (D.int IntKind.i64 (↑l.length : Int)) = AV.d (D.int IntKind.i64 (↑l.length : Int))) ∧ ((AV.d (D.int IntKind.i64 (↑l.length : Int)) = AV.d (D.int IntKind.i64 (↑l.length : Int))) ∧ (True)))))) (h := {}) (subs := []) (ws := []) (ρ := []) (by kernel_rfl) ?_
  repeat' (first | with_reducible exact True.intro | with_reducible refine And.intro ?_ ?_ | with_reducible refine condP_dec (fun _ => ?_) (fun _ => ?_) | with_reducible refine condP_eq (fun _ => ?_) (fun _ => ?_) | with_reducible refine condP_ne (fun _ => ?_) (fun _ => ?_) | with_reducible refine condP_not (condP_dec (fun _ => ?_) (fun _ => ?_)) | with_reducible refine condP_not (condP_eq (fun _ => ?_) (fun _ => ?_)) | with_reducible refine condP_not (condP_intro (fun _ => ?_) (fun _ => ?_)) | with_reducible refine condP_intro (fun _ => ?_) (fun _ => ?_))
  all_goals (try simp only [List.length_map, AV.d.injEq, D.int.injEq, D.bool.injEq, D.str.injEq, D.sl.injEq, true_and, and_true, decide_eq_true_eq, decide_eq_false_iff_not, decide_eq_decide])
  all_goals (try simp only [List.length_map] at *)
  all_goals first | rfl | omega

set_option maxRecDepth 100000 in
set_option maxHeartbeats 1000000 in
theorem index45n (l : List Int) (x : Int) (hL : Loops Try.prog 0 (loopN Try.prog 45 0) ((I45 l x 0).as 19) (.exit 0) ((I45 l x l.length).as 19)) : FnOK Try.prog 45 ([.d (.sl (inD l)), .d (.int .i64 x)]) ([]) (.d (.int .i64 (-1))) ([]) := by
  refine fnOK_wp (p := (AV.d (D.sl (inD l)) = AV.d (D.sl (inD l))) ∧ ((AV.d (D.int IntKind.i64 x) = AV.d (D.int IntKind.i64 x)) ∧ ((AV.d (D.int IntKind.i64 (↑(inD l).length : Int)) = AV.d (D.int IntKind.i64 (↑l.length : Int))) ∧ ((AV.d (D.int IntKind.i64 (0 : Int)) = AV.d (D.int IntKind.i64 (0 : Int))) ∧ ((LoopsS Try.prog (0 : Nat) (loopN Try.prog (45 : Nat) (0 : Nat)) (I45 l x (0 : Nat)) (Exit.exit (0 : Nat)) (I45 l x l.length) (19 : Nat)) ∧ ((AV.d (D.int IntKind.i64 (-1 : Int)) = AV.d (D.int IntKind.i64 (-1 : Int))) ∧ (True))))))) (h := {}) (subs := [⟨[], [], I45 l x 0, .exit 0, I45 l x l.length⟩]) (ws := []) (ρ := []) (by kernel_rfl) ?_
  have h : (inD l).length = l.length := List.length_map ..
  simp only [h]
  repeat' (first | with_reducible exact True.intro | with_reducible refine And.intro ?_ ?_ | with_reducible refine condP_dec (fun _ => ?_) (fun _ => ?_) | with_reducible refine condP_eq (fun _ => ?_) (fun _ => ?_) | with_reducible refine condP_ne (fun _ => ?_) (fun _ => ?_) | with_reducible refine condP_not (condP_dec (fun _ => ?_) (fun _ => ?_)) | with_reducible refine condP_not (condP_eq (fun _ => ?_) (fun _ => ?_)) | with_reducible refine condP_not (condP_intro (fun _ => ?_) (fun _ => ?_)) | with_reducible refine condP_intro (fun _ => ?_) (fun _ => ?_))
  all_goals first | exact hL | rfl | skip

set_option maxRecDepth 100000 in
set_option maxHeartbeats 1000000 in
theorem index45y (l : List Int) (x : Int) (m : Nat) (hL : Loops Try.prog 0 (loopN Try.prog 45 0) ((I45 l x 0).as 19) .ret ((O45 m).as 19)) : FnOK Try.prog 45 ([.d (.sl (inD l)), .d (.int .i64 x)]) ([]) (.d (.int .i64 m)) ([]) := by
  refine fnOK_wp (p := (AV.d (D.sl (inD l)) = AV.d (D.sl (inD l))) ∧ ((AV.d (D.int IntKind.i64 x) = AV.d (D.int IntKind.i64 x)) ∧ ((AV.d (D.int IntKind.i64 (↑(inD l).length : Int)) = AV.d (D.int IntKind.i64 (↑l.length : Int))) ∧ ((AV.d (D.int IntKind.i64 (0 : Int)) = AV.d (D.int IntKind.i64 (0 : Int))) ∧ ((LoopsS Try.prog (0 : Nat) (loopN Try.prog (45 : Nat) (0 : Nat)) (I45 l x (0 : Nat)) Exit.ret (O45 (↑m : Int)) (19 : Nat)) ∧ ((AV.d (D.int IntKind.i64 (↑m : Int)) = AV.d (D.int IntKind.i64 (↑m : Int))) ∧ (True))))))) (h := {}) (subs := [⟨[], [], I45 l x 0, .ret, O45 m⟩]) (ws := []) (ρ := []) (by kernel_rfl) ?_
  have h : (inD l).length = l.length := List.length_map ..
  simp only [h]
  repeat' (first | with_reducible exact True.intro | with_reducible refine And.intro ?_ ?_ | with_reducible refine condP_dec (fun _ => ?_) (fun _ => ?_) | with_reducible refine condP_eq (fun _ => ?_) (fun _ => ?_) | with_reducible refine condP_ne (fun _ => ?_) (fun _ => ?_) | with_reducible refine condP_not (condP_dec (fun _ => ?_) (fun _ => ?_)) | with_reducible refine condP_not (condP_eq (fun _ => ?_) (fun _ => ?_)) | with_reducible refine condP_not (condP_intro (fun _ => ?_) (fun _ => ?_)) | with_reducible refine condP_intro (fun _ => ?_) (fun _ => ?_))
  all_goals first | exact hL | rfl | skip

theorem index45 (l : List Int) (hl : l.length < 1073741824) (x : Int) : ∃ k : Int, decide (k ≥ 0) = decide (x ∈ l) ∧ FnOK Try.prog 45 [.d (.sl (inD l)), .d (.int .i64 x)] [] (.d (.int .i64 k)) [] := by
  rcases all_or (fun y => x ≠ y) l with h | ⟨m, y, h1, h2, h3⟩
  · refine ⟨-1, ?_, index45n l x (loops_n (I := fun j => (I45 l x j).as 19) (by simp) l.length 0 (by omega) (fun j _ hj => r45 l hl x j l[j] (get_of hj) (h _ (List.getElem_mem hj))) (q45 l x))⟩
    rw [decide_eq_false (fun hm => h x hm rfl)]; rfl
  · have hm := get_lt h1
    have h2 : x = y := Classical.byContradiction h2
    refine ⟨(m : Int), ?_, index45y l x m (loops_n (I := fun j => (I45 l x j).as 19) (by simp) m 0 (by omega) (fun j _ hj => r45 l hl x j (l[j]'(by omega)) (get_of _) (h3 j _ hj (get_of _))) (e45 l hl x m y h1 h2))⟩
    rw [decide_eq_true (show x ∈ l by rw [h2]; exact get_mem h1)]; exact decide_eq_true (by omega)
set_option maxRecDepth 100000 in
set_option maxHeartbeats 1000000 in
theorem contains44' (l : List Int) (x k : Int) (h : FnOK Try.prog 45 [.d (.sl (inD l)), .d (.int .i64 x)] [] (.d (.int .i64 k)) []) : FnOK Try.prog 44 ([.d (.sl (inD l)), .d (.int .i64 x)]) ([]) (.d (.bool (decide (k ≥ 0)))) ([]) := by
  refine fnOK_wp (p := (FnOK Try.prog (45 : Nat) [AV.d (D.sl (inD l)), AV.d (D.int IntKind.i64 x)] [] (AV.d (D.int IntKind.i64 k)) []) ∧ ((AV.d (D.bool (decide (k ≥ (0 : Int)))) = AV.d (D.bool (decide (k ≥ (0 : Int))))) ∧ (True))) (h := {H := [(1, [(2, .call [] (.d (.int .i64 k)) [])])]}) (subs := []) (ws := []) (ρ := []) (by kernel_rfl) ?_
  exact ⟨h, rfl, trivial⟩

theorem contains44 (l : List Int) (hl : l.length < 1073741824) (x : Int) : FnOK Try.prog 44 [.d (.sl (inD l)), .d (.int .i64 x)] [] (.d (.bool (decide (x ∈ l)))) [] := by
  obtain ⟨k, h1, h2⟩ := index45 l hl x
  rw [← h1]
  exact contains44' l x k h2
end Go.Proofs.Ytgdifegembfjoaa
