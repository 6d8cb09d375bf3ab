/-
laws 13: contracts of the small functions, the program's and the document's. No condition but that numbers fit their kinds.
-/
import Derived.Test.YteciimdjlopbdaaS0
import Derived.Test.YteciimdjlopbdaaProg
import Derived.KernelRfl
set_option linter.unusedSimpArgs false
set_option linter.unusedVariables false
namespace Go.Proofs.Yteciimdjlopbdaa
open Sx Go.RowKit

def gNd (r : Nd → AV) : List D → Option (AV × List Ob) := fun | [.agg [.int _ g, .int _ p, .int _ e, .int _ m, .int _ h]] => some (r ⟨g, p, e, m, h⟩, []) | _ => none
def gNd2 (r : Nd → Int → AV) : List D → Option (AV × List Ob) := fun | [.agg [.int _ g, .int _ p, .int _ e, .int _ m, .int _ h], .int _ n] => some (r ⟨g, p, e, m, h⟩ n, []) | _ => none
def g2 (r : Int → Int → AV) : List D → Option (AV × List Ob) := fun | [.int _ a, .int _ b] => some (r a b, []) | _ => none
def g3 (r : Int → Int → Int → AV) : List D → Option (AV × List Ob) := fun | [.int _ a, .int _ b, .int _ n] => some (r a b n, []) | _ => none
def G1 : List (Nat × (List D → Option (AV × List Ob))) := [
  (30, g2 fun a n => .d (.int .u32 (aAdd a n))),
  (40, g2 fun a n => .d (.int .u32 (aAdd a n))),
  (42, fun | [.int _ n] => some (.d (.int .u32 (n % 4294967296)), []) | _ => none),
  (34, fun | [.int _ n] => some (.d (.int .u32 (aAdd n 1)), []) | _ => none),
  (39, g3 fun a b n => .d (.bool (aIn a b n))),
  (41, g3 fun a b n => .d (.bool (aIn a b n))),
  (32, g2 fun a n => .d (.bool (aBehind a n))),
  (38, g2 fun a n => .d (.bool (aBehind a n))),
  (33, g2 fun a n => .d (.bool (decide (0 ≤ a ∧ a ≤ n)))),
  (14, gNd fun s => .d (.int .i64 (nChk s))),
  (20, gNd fun s => .d (.int .i64 (nChk s)))]
theorem nAt_yes {s : Nd} {g : Int} (h : nChk s = 0) : nAt s g = ⟨g, s.p, s.e, s.m, s.h⟩ := if_pos h
theorem nAt_no {s : Nd} {g : Int} (h : nChk s ≠ 0) : nAt s g = s := if_neg h
set_option maxRecDepth 100000 in
set_option maxHeartbeats 1000000 in
theorem add30 (a n : Int) : FnOK Try.prog 30 ([.d (.int .u32 a), .d (.int .i64 n)]) ([]) (.d (.int .u32 (aAdd a n))) ([]) := by
  refine fnOK_wp (p := (AV.d (D.int IntKind.u32 (IntKind.u32.wrap (a + IntKind.u32.wrap n))) = AV.d (D.int IntKind.u32 (aAdd a n))) ∧ (True)) (h := {}) (subs := []) (ws := []) (ρ := []) (by kernel_rfl) ?_
  repeat' (first | with_reducible exact True.intro | with_reducible refine And.intro ?_ ?_ | with_reducible refine condP_dec (fun _ => ?_) (fun _ => ?_) | with_reducible refine condP_eq (fun _ => ?_) (fun _ => ?_) | with_reducible refine condP_ne (fun _ => ?_) (fun _ => ?_) | with_reducible refine condP_not (condP_dec (fun _ => ?_) (fun _ => ?_)) | with_reducible refine condP_not (condP_eq (fun _ => ?_) (fun _ => ?_)) | with_reducible refine condP_not (condP_intro (fun _ => ?_) (fun _ => ?_)) | with_reducible refine condP_intro (fun _ => ?_) (fun _ => ?_))
  all_goals (try simp only [AV.d.injEq, D.int.injEq, D.bool.injEq, true_and, and_true, decide_eq_true_eq, decide_eq_false_iff_not, decide_eq_decide])
  all_goals (try simp only [IntKind.wrap_u32, IntKind.wrap_i64, aAdd, aIn, Int.tmod_eq_emod_of_nonneg (a := 1) (b := 4294967296) (by decide)] at *)
  all_goals first | rfl | omega

set_option maxRecDepth 100000 in
set_option maxHeartbeats 1000000 in
theorem in33 (a n : Int) : FnOK Try.prog 33 ([.d (.int .i64 a), .d (.int .i64 n)]) ([]) (.d (.bool (decide (0 ≤ a ∧ a ≤ n)))) ([]) := by
  refine fnOK_wp (p := condP (decide ((0 : Int) ≤ a)) ((D.bool (decide ((0 : Int) ≤ a)) = D.bool true) ∧ ((AV.d (D.bool (decide (a ≤ n))) = AV.d (D.bool (decide ((0 : Int) ≤ a ∧ a ≤ n)))) ∧ (True))) ((D.bool (decide ((0 : Int) ≤ a)) = D.bool false) ∧ ((AV.d (D.bool false) = AV.d (D.bool (decide ((0 : Int) ≤ a ∧ a ≤ n)))) ∧ (True)))) (h := {}) (subs := []) (ws := []) (ρ := []) (by kernel_rfl) ?_
  repeat' (first | with_reducible exact True.intro | with_reducible refine And.intro ?_ ?_ | with_reducible refine condP_dec (fun _ => ?_) (fun _ => ?_) | with_reducible refine condP_eq (fun _ => ?_) (fun _ => ?_) | with_reducible refine condP_ne (fun _ => ?_) (fun _ => ?_) | with_reducible refine condP_not (condP_dec (fun _ => ?_) (fun _ => ?_)) | with_reducible refine condP_not (condP_eq (fun _ => ?_) (fun _ => ?_)) | with_reducible refine condP_not (condP_intro (fun _ => ?_) (fun _ => ?_)) | with_reducible refine condP_intro (fun _ => ?_) (fun _ => ?_))
  all_goals (try simp only [AV.d.injEq, D.int.injEq, D.bool.injEq, true_and, and_true, decide_eq_true_eq, decide_eq_false_iff_not, decide_eq_decide])
  all_goals (try simp only [IntKind.wrap_u32, IntKind.wrap_i64, aAdd, aIn, Int.tmod_eq_emod_of_nonneg (a := 1) (b := 4294967296) (by decide)] at *)
  all_goals first | rfl | omega | (rw [decide_eq_true_eq]; omega) | (rw [decide_eq_false_iff_not]; omega) | (refine decide_eq_decide.2 ⟨?_, ?_⟩ <;> intros <;> omega) | (refine (decide_eq_false ?_).symm; omega) | skip

set_option maxRecDepth 100000 in
set_option maxHeartbeats 1000000 in
theorem in39 (a b n : Int) (hn : 0 < n) : FnOK Try.prog 39 ([.d (.int .u32 a), .d (.int .u32 b), .d (.int .i64 n)]) ([]) (.d (.bool (aIn a b n))) ([]) := by
  refine fnOK_wp (p := (D.bool (decide (n > (0 : Int))) = D.bool true) ∧ ((AV.d (D.bool (decide (IntKind.i64.wrap (IntKind.u32.wrap (a - b)) < n))) = AV.d (D.bool (aIn a b n))) ∧ (True))) (h := {chain := true}) (subs := []) (ws := []) (ρ := []) (by kernel_rfl) ?_
  repeat' (first | with_reducible exact True.intro | with_reducible refine And.intro ?_ ?_ | with_reducible refine condP_dec (fun _ => ?_) (fun _ => ?_) | with_reducible refine condP_eq (fun _ => ?_) (fun _ => ?_) | with_reducible refine condP_ne (fun _ => ?_) (fun _ => ?_) | with_reducible refine condP_not (condP_dec (fun _ => ?_) (fun _ => ?_)) | with_reducible refine condP_not (condP_eq (fun _ => ?_) (fun _ => ?_)) | with_reducible refine condP_not (condP_intro (fun _ => ?_) (fun _ => ?_)) | with_reducible refine condP_intro (fun _ => ?_) (fun _ => ?_))
  all_goals (try simp only [AV.d.injEq, D.int.injEq, D.bool.injEq, true_and, and_true, decide_eq_true_eq, decide_eq_false_iff_not, decide_eq_decide])
  all_goals (try simp only [IntKind.wrap_u32, IntKind.wrap_i64, aAdd, aIn, Int.tmod_eq_emod_of_nonneg (a := 1) (b := 4294967296) (by decide)] at *)
  all_goals first | rfl | omega | (refine decide_eq_decide.2 ⟨?_, ?_⟩ <;> intros <;> omega) | (simp; omega)

set_option maxRecDepth 100000 in
set_option maxHeartbeats 1000000 in
theorem short42 (n : Int) : FnOK Try.prog 42 ([.d (.int .i64 n)]) ([]) (.d (.int .u32 (n % 4294967296))) ([]) := by
  refine fnOK_wp (p := ((4294967296 : Int) ≠ (0 : Int)) ∧ (condP (decide (n.tmod (4294967296 : Int) < (0 : Int))) ((AV.d (D.int IntKind.u32 (IntKind.u32.wrap (IntKind.i64.wrap (n.tmod (4294967296 : Int) + (4294967296 : Int))))) = AV.d (D.int IntKind.u32 (n % (4294967296 : Int)))) ∧ (True)) ((AV.d (D.int IntKind.u32 (IntKind.u32.wrap (n.tmod (4294967296 : Int)))) = AV.d (D.int IntKind.u32 (n % (4294967296 : Int)))) ∧ (True)))) (h := {}) (subs := []) (ws := []) (ρ := []) (by kernel_rfl) ?_
  repeat' (first | with_reducible exact True.intro | with_reducible refine And.intro ?_ ?_ | with_reducible refine condP_dec (fun _ => ?_) (fun _ => ?_) | with_reducible refine condP_eq (fun _ => ?_) (fun _ => ?_) | with_reducible refine condP_ne (fun _ => ?_) (fun _ => ?_) | with_reducible refine condP_not (condP_dec (fun _ => ?_) (fun _ => ?_)) | with_reducible refine condP_not (condP_eq (fun _ => ?_) (fun _ => ?_)) | with_reducible refine condP_not (condP_intro (fun _ => ?_) (fun _ => ?_)) | with_reducible refine condP_intro (fun _ => ?_) (fun _ => ?_))
  all_goals (try simp only [AV.d.injEq, D.int.injEq, D.bool.injEq, true_and, and_true, decide_eq_true_eq, decide_eq_false_iff_not, decide_eq_decide])
  all_goals (try simp only [IntKind.wrap_u32, IntKind.wrap_i64, aAdd, aIn, Int.tmod_eq_emod_of_nonneg (a := 1) (b := 4294967296) (by decide)] at *)
  all_goals (try simp only [tmod_round] at *)
  all_goals first | rfl | omega | ((repeat' split) <;> omega) | ((repeat' split at *) <;> omega)

set_option maxRecDepth 100000 in
set_option maxHeartbeats 1000000 in
theorem in41 (a b n : Int) (a0 : 0 ≤ a) (a1 : a < 4294967296) (b0 : 0 ≤ b) (b1 : b < 4294967296) : FnOK Try.prog 41 ([.d (.int .u32 a), .d (.int .u32 b), .d (.int .i64 n)]) ([]) (.d (.bool (aIn a b n))) ([]) := by
  refine fnOK_wp (p := condP (decide (IntKind.i64.wrap (IntKind.i64.wrap a - IntKind.i64.wrap b) < (0 : Int))) ((AV.d (D.bool (decide (IntKind.i64.wrap (IntKind.i64.wrap (IntKind.i64.wrap a - IntKind.i64.wrap b) + (4294967296 : Int)) < n))) = AV.d (D.bool (aIn a b n))) ∧ (True)) ((AV.d (D.bool (decide (IntKind.i64.wrap (IntKind.i64.wrap a - IntKind.i64.wrap b) < n))) = AV.d (D.bool (aIn a b n))) ∧ (True))) (h := {}) (subs := []) (ws := []) (ρ := []) (by kernel_rfl) ?_
  repeat' (first | with_reducible exact True.intro | with_reducible refine And.intro ?_ ?_ | with_reducible refine condP_dec (fun _ => ?_) (fun _ => ?_) | with_reducible refine condP_eq (fun _ => ?_) (fun _ => ?_) | with_reducible refine condP_ne (fun _ => ?_) (fun _ => ?_) | with_reducible refine condP_not (condP_dec (fun _ => ?_) (fun _ => ?_)) | with_reducible refine condP_not (condP_eq (fun _ => ?_) (fun _ => ?_)) | with_reducible refine condP_not (condP_intro (fun _ => ?_) (fun _ => ?_)) | with_reducible refine condP_intro (fun _ => ?_) (fun _ => ?_))
  all_goals (try simp only [AV.d.injEq, D.int.injEq, D.bool.injEq, true_and, and_true, decide_eq_true_eq, decide_eq_false_iff_not, decide_eq_decide])
  all_goals (try simp only [IntKind.wrap_u32, IntKind.wrap_i64, aAdd, aIn, Int.tmod_eq_emod_of_nonneg (a := 1) (b := 4294967296) (by decide)] at *)
  all_goals first | rfl | omega | (refine decide_eq_decide.2 ⟨?_, ?_⟩ <;> intros <;> omega)

set_option maxRecDepth 100000 in
set_option maxHeartbeats 1000000 in
theorem chk14 (s : Nd) : FnOK Try.prog 14 ([.d (ndD s)]) ([]) (.d (.int .i64 (nChk s))) ([]) := by
  refine fnOK_wp (p := condP (decide (s.p < (0 : Int))) (condP (decide (s.p < (0 : Int))) ((AV.d (D.int IntKind.i64 (8 : Int)) = AV.d (D.int IntKind.i64 (nChk s))) ∧ (True)) (condP (decide (s.g > (4 : Int))) ((AV.d (D.int IntKind.i64 (12 : Int)) = AV.d (D.int IntKind.i64 (nChk s))) ∧ (True)) (condP (decide (s.g < (2 : Int))) ((D.bool (decide (s.g < (2 : Int))) = D.bool true) ∧ (condP (s.h != (0 : Int)) ((AV.d (D.int IntKind.i64 (4 : Int)) = AV.d (D.int IntKind.i64 (nChk s))) ∧ (True)) ((AV.d (D.int IntKind.i64 (0 : Int)) = AV.d (D.int IntKind.i64 (nChk s))) ∧ (True)))) ((D.bool (decide (s.g < (2 : Int))) = D.bool false) ∧ ((AV.d (D.int IntKind.i64 (0 : Int)) = AV.d (D.int IntKind.i64 (nChk s))) ∧ (True)))))) (condP (decide (s.p ≥ (4 : Int))) (condP (decide (s.p ≥ (4 : Int))) ((AV.d (D.int IntKind.i64 (8 : Int)) = AV.d (D.int IntKind.i64 (nChk s))) ∧ (True)) (condP (decide (s.g > (4 : Int))) ((AV.d (D.int IntKind.i64 (12 : Int)) = AV.d (D.int IntKind.i64 (nChk s))) ∧ (True)) (condP (decide (s.g < (2 : Int))) ((D.bool (decide (s.g < (2 : Int))) = D.bool true) ∧ (condP (s.h != (0 : Int)) ((AV.d (D.int IntKind.i64 (4 : Int)) = AV.d (D.int IntKind.i64 (nChk s))) ∧ (True)) ((AV.d (D.int IntKind.i64 (0 : Int)) = AV.d (D.int IntKind.i64 (nChk s))) ∧ (True)))) ((D.bool (decide (s.g < (2 : Int))) = D.bool false) ∧ ((AV.d (D.int IntKind.i64 (0 : Int)) = AV.d (D.int IntKind.i64 (nChk s))) ∧ (True)))))) (condP (decide (s.e < (0 : Int))) (condP (decide (s.e < (0 : Int))) ((AV.d (D.int IntKind.i64 (8 : Int)) = AV.d (D.int IntKind.i64 (nChk s))) ∧ (True)) (condP (decide (s.g > (4 : Int))) ((AV.d (D.int IntKind.i64 (12 : Int)) = AV.d (D.int IntKind.i64 (nChk s))) ∧ (True)) (condP (decide (s.g < (2 : Int))) ((D.bool (decide (s.g < (2 : Int))) = D.bool true) ∧ (condP (s.h != (0 : Int)) ((AV.d (D.int IntKind.i64 (4 : Int)) = AV.d (D.int IntKind.i64 (nChk s))) ∧ (True)) ((AV.d (D.int IntKind.i64 (0 : Int)) = AV.d (D.int IntKind.i64 (nChk s))) ∧ (True)))) ((D.bool (decide (s.g < (2 : Int))) = D.bool false) ∧ ((AV.d (D.int IntKind.i64 (0 : Int)) = AV.d (D.int IntKind.i64 (nChk s))) ∧ (True)))))) (condP (decide (s.e > (65535 : Int))) ((AV.d (D.int IntKind.i64 (8 : Int)) = AV.d (D.int IntKind.i64 (nChk s))) ∧ (True)) (condP (decide (s.g > (4 : Int))) ((AV.d (D.int IntKind.i64 (12 : Int)) = AV.d (D.int IntKind.i64 (nChk s))) ∧ (True)) (condP (decide (s.g < (2 : Int))) ((D.bool (decide (s.g < (2 : Int))) = D.bool true) ∧ (condP (s.h != (0 : Int)) ((AV.d (D.int IntKind.i64 (4 : Int)) = AV.d (D.int IntKind.i64 (nChk s))) ∧ (True)) ((AV.d (D.int IntKind.i64 (0 : Int)) = AV.d (D.int IntKind.i64 (nChk s))) ∧ (True)))) ((D.bool (decide (s.g < (2 : Int))) = D.bool false) ∧ ((AV.d (D.int IntKind.i64 (0 : Int)) = AV.d (D.int IntKind.i64 (nChk s))) ∧ (True))))))))) (h := {}) (subs := []) (ws := []) (ρ := []) (by kernel_rfl) ?_
  repeat' (first | with_reducible exact True.intro | with_reducible refine And.intro ?_ ?_ | with_reducible refine condP_dec (fun _ => ?_) (fun _ => ?_) | with_reducible refine condP_eq (fun _ => ?_) (fun _ => ?_) | with_reducible refine condP_ne (fun _ => ?_) (fun _ => ?_) | with_reducible refine condP_not (condP_dec (fun _ => ?_) (fun _ => ?_)) | with_reducible refine condP_not (condP_eq (fun _ => ?_) (fun _ => ?_)) | with_reducible refine condP_not (condP_intro (fun _ => ?_) (fun _ => ?_)) | with_reducible refine condP_intro (fun _ => ?_) (fun _ => ?_))
  all_goals (try simp only [AV.d.injEq, D.int.injEq, D.bool.injEq, true_and, and_true])
  all_goals first | rfl | omega | (unfold nChk; (repeat' split) <;> first | rfl | omega) | (refine congrArg D.bool ?_; simp; done) | (rw [decide_eq_true_eq]; omega) | (rw [decide_eq_false_iff_not]; omega) | (exfalso; simp_all; done) | skip

set_option maxRecDepth 100000 in
set_option maxHeartbeats 1000000 in
theorem chk20 (s : Nd) : FnOK Try.prog 20 ([.d (ndD s)]) ([]) (.d (.int .i64 (nChk s))) ([]) := by
  refine fnOK_wp (p := condP (decide (s.p < (0 : Int))) ((D.bool (decide (s.p < (0 : Int))) = D.bool true) ∧ ((D.bool true = D.bool true) ∧ ((D.bool true = D.bool true) ∧ ((AV.d (D.int IntKind.i64 (8 : Int)) = AV.d (D.int IntKind.i64 (nChk s))) ∧ (True))))) (condP (decide (s.p ≥ (4 : Int))) ((D.bool (decide (s.p < (0 : Int))) = D.bool false) ∧ ((D.bool (decide (s.p ≥ (4 : Int))) = D.bool true) ∧ ((D.bool true = D.bool true) ∧ ((AV.d (D.int IntKind.i64 (8 : Int)) = AV.d (D.int IntKind.i64 (nChk s))) ∧ (True))))) (condP (decide (s.e < (0 : Int))) ((D.bool (decide (s.p < (0 : Int))) = D.bool false) ∧ ((D.bool (decide (s.p ≥ (4 : Int))) = D.bool false) ∧ ((D.bool (decide (s.e < (0 : Int))) = D.bool true) ∧ ((AV.d (D.int IntKind.i64 (8 : Int)) = AV.d (D.int IntKind.i64 (nChk s))) ∧ (True))))) ((D.bool (decide (s.p < (0 : Int))) = D.bool false) ∧ ((D.bool (decide (s.p ≥ (4 : Int))) = D.bool false) ∧ ((D.bool (decide (s.e < (0 : Int))) = D.bool false) ∧ (condP (decide (s.e > (65535 : Int))) ((AV.d (D.int IntKind.i64 (8 : Int)) = AV.d (D.int IntKind.i64 (nChk s))) ∧ (True)) (condP (decide (s.g > (4 : Int))) ((AV.d (D.int IntKind.i64 (12 : Int)) = AV.d (D.int IntKind.i64 (nChk s))) ∧ (True)) (condP (decide (s.g < (2 : Int))) ((D.bool (decide (s.g < (2 : Int))) = D.bool true) ∧ (condP (s.h != (0 : Int)) ((AV.d (D.int IntKind.i64 (4 : Int)) = AV.d (D.int IntKind.i64 (nChk s))) ∧ (True)) ((AV.d (D.int IntKind.i64 (0 : Int)) = AV.d (D.int IntKind.i64 (nChk s))) ∧ (True)))) ((D.bool (decide (s.g < (2 : Int))) = D.bool false) ∧ ((AV.d (D.int IntKind.i64 (0 : Int)) = AV.d (D.int IntKind.i64 (nChk s))) ∧ (True)))))))))))) (h := {}) (subs := []) (ws := []) (ρ := []) (by kernel_rfl) ?_
  repeat' (first | with_reducible exact True.intro | with_reducible refine And.intro ?_ ?_ | with_reducible refine condP_dec (fun _ => ?_) (fun _ => ?_) | with_reducible refine condP_eq (fun _ => ?_) (fun _ => ?_) | with_reducible refine condP_ne (fun _ => ?_) (fun _ => ?_) | with_reducible refine condP_not (condP_dec (fun _ => ?_) (fun _ => ?_)) | with_reducible refine condP_not (condP_eq (fun _ => ?_) (fun _ => ?_)) | with_reducible refine condP_not (condP_intro (fun _ => ?_) (fun _ => ?_)) | with_reducible refine condP_intro (fun _ => ?_) (fun _ => ?_))
  all_goals (try simp only [AV.d.injEq, D.int.injEq, D.bool.injEq, true_and, and_true])
  all_goals first | rfl | omega | (unfold nChk; (repeat' split) <;> first | rfl | omega) | (refine congrArg D.bool ?_; simp; done) | (rw [decide_eq_true_eq]; omega) | (rw [decide_eq_false_iff_not]; omega) | (exfalso; simp_all; done) | skip

set_option maxRecDepth 100000 in
set_option maxHeartbeats 1000000 in
theorem new12 (p e m : Int) : FnOK Try.prog 12 ([.d (.int .i64 p), .d (.int .i64 e), .d (.int .u32 m)]) ([]) (.d (ndD (nNew p e m))) ([]) := by
  refine fnOK_wp (p := (AV.d (D.agg [D.int IntKind.u8 (0 : Int), D.int IntKind.i64 p, D.int IntKind.i64 e, D.int IntKind.u32 m, D.int IntKind.u32 (0 : Int)]) = AV.d (D.agg [D.int IntKind.u8 (nNew p e m).g, D.int IntKind.i64 (nNew p e m).p, D.int IntKind.i64 (nNew p e m).e, D.int IntKind.u32 (nNew p e m).m, D.int IntKind.u32 (nNew p e m).h])) ∧ (True)) (h := {}) (subs := []) (ws := []) (ρ := []) (by kernel_rfl) ?_
  repeat' (first | with_reducible exact True.intro | with_reducible refine And.intro ?_ ?_ | with_reducible refine condP_dec (fun _ => ?_) (fun _ => ?_) | with_reducible refine condP_eq (fun _ => ?_) (fun _ => ?_) | with_reducible refine condP_ne (fun _ => ?_) (fun _ => ?_) | with_reducible refine condP_not (condP_dec (fun _ => ?_) (fun _ => ?_)) | with_reducible refine condP_not (condP_eq (fun _ => ?_) (fun _ => ?_)) | with_reducible refine condP_not (condP_intro (fun _ => ?_) (fun _ => ?_)) | with_reducible refine condP_intro (fun _ => ?_) (fun _ => ?_))
  all_goals rfl

set_option maxRecDepth 100000 in
set_option maxHeartbeats 1000000 in
theorem new27 (p e m : Int) : FnOK Try.prog 27 ([.d (.int .i64 p), .d (.int .i64 e), .d (.int .u32 m)]) ([]) (.d (ndD (nNew p e m))) ([]) := by
  refine fnOK_wp (p := (AV.d (D.agg [D.int IntKind.u8 (0 : Int), D.int IntKind.i64 p, D.int IntKind.i64 e, D.int IntKind.u32 m, D.int IntKind.u32 (0 : Int)]) = AV.d (D.agg [D.int IntKind.u8 (nNew p e m).g, D.int IntKind.i64 (nNew p e m).p, D.int IntKind.i64 (nNew p e m).e, D.int IntKind.u32 (nNew p e m).m, D.int IntKind.u32 (nNew p e m).h])) ∧ (True)) (h := {}) (subs := []) (ws := []) (ρ := []) (by kernel_rfl) ?_
  repeat' (first | with_reducible exact True.intro | with_reducible refine And.intro ?_ ?_ | with_reducible refine condP_dec (fun _ => ?_) (fun _ => ?_) | with_reducible refine condP_eq (fun _ => ?_) (fun _ => ?_) | with_reducible refine condP_ne (fun _ => ?_) (fun _ => ?_) | with_reducible refine condP_not (condP_dec (fun _ => ?_) (fun _ => ?_)) | with_reducible refine condP_not (condP_eq (fun _ => ?_) (fun _ => ?_)) | with_reducible refine condP_not (condP_intro (fun _ => ?_) (fun _ => ?_)) | with_reducible refine condP_intro (fun _ => ?_) (fun _ => ?_))
  all_goals rfl

set_option maxRecDepth 100000 in
set_option maxHeartbeats 1000000 in
theorem met31 (s : Nd) (g : Int) (x : Sg) : FnOK Try.prog 31 ([.d (ndD s), .d (.int .u8 g), .d (sgD x)]) ([]) (.d (ndD (nMet s g x.q))) ([]) := by
  refine fnOK_wp (p := (AV.d (D.agg [D.int IntKind.u8 g, D.int IntKind.i64 s.p, D.int IntKind.i64 s.e, D.int IntKind.u32 s.m, D.int IntKind.u32 x.q]) = AV.d (D.agg [D.int IntKind.u8 (nMet s g x.q).g, D.int IntKind.i64 (nMet s g x.q).p, D.int IntKind.i64 (nMet s g x.q).e, D.int IntKind.u32 (nMet s g x.q).m, D.int IntKind.u32 (nMet s g x.q).h])) ∧ (True)) (h := {}) (subs := []) (ws := []) (ρ := []) (by kernel_rfl) ?_
  repeat' (first | with_reducible exact True.intro | with_reducible refine And.intro ?_ ?_ | with_reducible refine condP_dec (fun _ => ?_) (fun _ => ?_) | with_reducible refine condP_eq (fun _ => ?_) (fun _ => ?_) | with_reducible refine condP_ne (fun _ => ?_) (fun _ => ?_) | with_reducible refine condP_not (condP_dec (fun _ => ?_) (fun _ => ?_)) | with_reducible refine condP_not (condP_eq (fun _ => ?_) (fun _ => ?_)) | with_reducible refine condP_not (condP_intro (fun _ => ?_) (fun _ => ?_)) | with_reducible refine condP_intro (fun _ => ?_) (fun _ => ?_))
  all_goals rfl

set_option maxRecDepth 100000 in
set_option maxHeartbeats 1000000 in
theorem met37 (s : Nd) (g : Int) (x : Sg) : FnOK Try.prog 37 ([.d (ndD s), .d (.int .u8 g), .d (sgD x)]) ([]) (.d (ndD (nMet s g x.q))) ([]) := by
  refine fnOK_wp (p := (AV.d (D.agg [D.int IntKind.u8 g, D.int IntKind.i64 s.p, D.int IntKind.i64 s.e, D.int IntKind.u32 s.m, D.int IntKind.u32 x.q]) = AV.d (D.agg [D.int IntKind.u8 (nMet s g x.q).g, D.int IntKind.i64 (nMet s g x.q).p, D.int IntKind.i64 (nMet s g x.q).e, D.int IntKind.u32 (nMet s g x.q).m, D.int IntKind.u32 (nMet s g x.q).h])) ∧ (True)) (h := {}) (subs := []) (ws := []) (ρ := []) (by kernel_rfl) ?_
  repeat' (first | with_reducible exact True.intro | with_reducible refine And.intro ?_ ?_ | with_reducible refine condP_dec (fun _ => ?_) (fun _ => ?_) | with_reducible refine condP_eq (fun _ => ?_) (fun _ => ?_) | with_reducible refine condP_ne (fun _ => ?_) (fun _ => ?_) | with_reducible refine condP_not (condP_dec (fun _ => ?_) (fun _ => ?_)) | with_reducible refine condP_not (condP_eq (fun _ => ?_) (fun _ => ?_)) | with_reducible refine condP_not (condP_intro (fun _ => ?_) (fun _ => ?_)) | with_reducible refine condP_intro (fun _ => ?_) (fun _ => ?_))
  all_goals rfl

set_option maxRecDepth 100000 in
set_option maxHeartbeats 1000000 in
theorem has28 (x : Sg) (k : Int) : FnOK Try.prog 28 ([.d (sgD x), .d (.int .u8 k)]) ([]) (.d (.bool (hasB x.f k))) ([]) := by
  refine fnOK_wp (p := (AV.d (D.bool (bitsI BinOp.and IntKind.u8 x.f k == k)) = AV.d (D.bool (hasB x.f k))) ∧ (True)) (h := {}) (subs := []) (ws := []) (ρ := []) (by kernel_rfl) ?_
  exact ⟨rfl, trivial⟩

set_option maxRecDepth 100000 in
set_option maxHeartbeats 1000000 in
theorem at29 (s : Nd) (g : Int) : FnOK Try.prog 29 ([.d (ndD s), .d (.int .u8 g)]) ([]) (.d (ndD (nAt s g))) ([]) := by
  refine fnOK_wp (p := (FnOK Try.prog (14 : Nat) [AV.d (D.agg [D.int IntKind.u8 s.g, D.int IntKind.i64 s.p, D.int IntKind.i64 s.e, D.int IntKind.u32 s.m, D.int IntKind.u32 s.h])] [] (AV.d (D.int IntKind.i64 (nChk s))) []) ∧ (condP (nChk s == (0 : Int)) ((AV.d (D.agg [D.int IntKind.u8 g, D.int IntKind.i64 s.p, D.int IntKind.i64 s.e, D.int IntKind.u32 s.m, D.int IntKind.u32 s.h]) = AV.d (D.agg [D.int IntKind.u8 (nAt s g).g, D.int IntKind.i64 (nAt s g).p, D.int IntKind.i64 (nAt s g).e, D.int IntKind.u32 (nAt s g).m, D.int IntKind.u32 (nAt s g).h])) ∧ (True)) ((AV.d (D.agg [D.int IntKind.u8 s.g, D.int IntKind.i64 s.p, D.int IntKind.i64 s.e, D.int IntKind.u32 s.m, D.int IntKind.u32 s.h]) = AV.d (D.agg [D.int IntKind.u8 (nAt s g).g, D.int IntKind.i64 (nAt s g).p, D.int IntKind.i64 (nAt s g).e, D.int IntKind.u32 (nAt s g).m, D.int IntKind.u32 (nAt s g).h])) ∧ (True)))) (h := {G := G1}) (subs := []) (ws := []) (ρ := []) (by kernel_rfl) ?_
  refine ⟨chk14 s, condP_eq (fun h => ?_) (fun h => ?_)⟩
  · rw [nAt_yes h]; exact ⟨rfl, trivial⟩
  · rw [nAt_no h]; exact ⟨rfl, trivial⟩

end Go.Proofs.Yteciimdjlopbdaa
