/-
laws 04: sums, differences, order, and whether a number is within so many of another one: contracts of the program's functions and of the document's. No condition but that numbers fit their kinds.
-/
import Derived.Test.YtnigaimmobfhoaaS0
import Derived.Test.YtnigaimmobfhoaaProg
import Derived.KernelRfl
set_option linter.unusedSimpArgs false
set_option linter.unusedVariables false
namespace Go.Proofs.Ytnigaimmobfhoaa
open Sx Go.RowKit

def G1 : List (Nat × (List D → Option (AV × List Ob))) := [
  (7, fun | [.int _ a, .int _ n] => some (.d (.int .u32 (sAdd a n)), []) | _ => none),
  (9, fun | [.int _ a, .int _ b] => some (.d (.int .i64 (sDiff a b)), []) | _ => none),
  (10, fun | [.int _ a, .int _ b] => some (.d (.int .i64 (sDiff a b)), []) | _ => none),
  (18, fun | [.int _ n] => some (.d (.int .u32 (sShort n)), []) | _ => none),
  (19, fun | [.int _ n] => some (.d (.int .u32 (sShort n)), []) | _ => none),
  (22, fun | [.int _ n] => some (.d (.int .i64 (sAbs n)), []) | _ => none)]


set_option maxRecDepth 100000 in
set_option maxHeartbeats 1000000 in
theorem add7 (a n : Int) : FnOK Try.prog 7 ([.d (.int .u32 a), .d (.int .i64 n)]) ([]) (.d (.int .u32 (sAdd a n))) ([]) := by
  refine fnOK_wp (p := (AV.d (D.int IntKind.u32 (IntKind.u32.wrap (a + IntKind.u32.wrap n))) = AV.d (D.int IntKind.u32 (sAdd a n))) ∧ (True)) (h := {G := G1}) (subs := []) (ws := []) (ρ := []) (by kernel_rfl) ?_
  repeat' (first | with_reducible exact True.intro | with_reducible refine And.intro ?_ ?_ | with_reducible refine condP_dec (fun _ => ?_) (fun _ => ?_) | with_reducible refine condP_eq (fun _ => ?_) (fun _ => ?_) | with_reducible refine condP_ne (fun _ => ?_) (fun _ => ?_) | with_reducible refine condP_not (condP_intro (fun _ => ?_) (fun _ => ?_)) | with_reducible refine condP_intro (fun _ => ?_) (fun _ => ?_))
  all_goals (try simp only [AV.d.injEq, D.int.injEq, D.bool.injEq, true_and, and_true, decide_eq_true_eq, decide_eq_false_iff_not, decide_eq_decide])
  all_goals (try (first | exact diff9 _ _))
  all_goals (try simp only [IntKind.wrap_u32, IntKind.wrap_i32, IntKind.wrap_i64, tmod_round, sAdd, sDiff, sLess, sIn, sShort, sAbs, sNear, sLong] at *)
  all_goals (try simp only [decide_eq_true_eq, decide_eq_false_iff_not, decide_eq_decide, eq_comm (a := false), eq_comm (a := true), Int.not_lt, Int.not_le])
  all_goals first | omega | decide | (refine decide_eq_decide.2 ⟨?_, ?_⟩ <;> intros <;> omega) | ((repeat' split) <;> omega) | (constructor <;> intros <;> omega) | (first | exact diff9 _ _)

set_option maxRecDepth 100000 in
set_option maxHeartbeats 1000000 in
theorem diff9 (a b : Int) : FnOK Try.prog 9 ([.d (.int .u32 a), .d (.int .u32 b)]) ([]) (.d (.int .i64 (sDiff a b))) ([]) := by
  refine fnOK_wp (p := (AV.d (D.int IntKind.i64 (IntKind.i64.wrap (IntKind.i32.wrap (IntKind.u32.wrap (a - b))))) = AV.d (D.int IntKind.i64 (sDiff a b))) ∧ (True)) (h := {G := G1}) (subs := []) (ws := []) (ρ := []) (by kernel_rfl) ?_
  repeat' (first | with_reducible exact True.intro | with_reducible refine And.intro ?_ ?_ | with_reducible refine condP_dec (fun _ => ?_) (fun _ => ?_) | with_reducible refine condP_eq (fun _ => ?_) (fun _ => ?_) | with_reducible refine condP_ne (fun _ => ?_) (fun _ => ?_) | with_reducible refine condP_not (condP_intro (fun _ => ?_) (fun _ => ?_)) | with_reducible refine condP_intro (fun _ => ?_) (fun _ => ?_))
  all_goals (try simp only [AV.d.injEq, D.int.injEq, D.bool.injEq, true_and, and_true, decide_eq_true_eq, decide_eq_false_iff_not, decide_eq_decide])
  all_goals (try (first | exact diff9 _ _))
  all_goals (try simp only [IntKind.wrap_u32, IntKind.wrap_i32, IntKind.wrap_i64, tmod_round, sAdd, sDiff, sLess, sIn, sShort, sAbs, sNear, sLong] at *)
  all_goals (try simp only [decide_eq_true_eq, decide_eq_false_iff_not, decide_eq_decide, eq_comm (a := false), eq_comm (a := true), Int.not_lt, Int.not_le])
  all_goals first | omega | decide | (refine decide_eq_decide.2 ⟨?_, ?_⟩ <;> intros <;> omega) | ((repeat' split) <;> omega) | (constructor <;> intros <;> omega) | (first | exact diff9 _ _)

set_option maxRecDepth 100000 in
set_option maxHeartbeats 1000000 in
theorem less11 (a b : Int) : FnOK Try.prog 11 ([.d (.int .u32 a), .d (.int .u32 b)]) ([]) (.d (.bool (sLess a b))) ([]) := by
  refine fnOK_wp (p := (AV.d (D.bool (decide (IntKind.i32.wrap (IntKind.u32.wrap (a - b)) < (0 : Int)))) = AV.d (D.bool (sLess a b))) ∧ (True)) (h := {G := G1}) (subs := []) (ws := []) (ρ := []) (by kernel_rfl) ?_
  repeat' (first | with_reducible exact True.intro | with_reducible refine And.intro ?_ ?_ | with_reducible refine condP_dec (fun _ => ?_) (fun _ => ?_) | with_reducible refine condP_eq (fun _ => ?_) (fun _ => ?_) | with_reducible refine condP_ne (fun _ => ?_) (fun _ => ?_) | with_reducible refine condP_not (condP_intro (fun _ => ?_) (fun _ => ?_)) | with_reducible refine condP_intro (fun _ => ?_) (fun _ => ?_))
  all_goals (try simp only [AV.d.injEq, D.int.injEq, D.bool.injEq, true_and, and_true, decide_eq_true_eq, decide_eq_false_iff_not, decide_eq_decide])
  all_goals (try (first | exact diff9 _ _))
  all_goals (try simp only [IntKind.wrap_u32, IntKind.wrap_i32, IntKind.wrap_i64, tmod_round, sAdd, sDiff, sLess, sIn, sShort, sAbs, sNear, sLong] at *)
  all_goals (try simp only [decide_eq_true_eq, decide_eq_false_iff_not, decide_eq_decide, eq_comm (a := false), eq_comm (a := true), Int.not_lt, Int.not_le])
  all_goals first | omega | decide | (refine decide_eq_decide.2 ⟨?_, ?_⟩ <;> intros <;> omega) | ((repeat' split) <;> omega) | (constructor <;> intros <;> omega) | (first | exact diff9 _ _)

set_option maxRecDepth 100000 in
set_option maxHeartbeats 1000000 in
theorem short18 (n : Int) (h0 : -9223372036854775808 ≤ n) (h1 : n < 9223372036854775808) : FnOK Try.prog 18 ([.d (.int .i64 n)]) ([]) (.d (.int .u32 (sShort n))) ([]) := by
  refine fnOK_wp (p := (AV.d (D.int IntKind.u32 (IntKind.u32.wrap n)) = AV.d (D.int IntKind.u32 (sShort n))) ∧ (True)) (h := {G := G1}) (subs := []) (ws := []) (ρ := []) (by kernel_rfl) ?_
  repeat' (first | with_reducible exact True.intro | with_reducible refine And.intro ?_ ?_ | with_reducible refine condP_dec (fun _ => ?_) (fun _ => ?_) | with_reducible refine condP_eq (fun _ => ?_) (fun _ => ?_) | with_reducible refine condP_ne (fun _ => ?_) (fun _ => ?_) | with_reducible refine condP_not (condP_intro (fun _ => ?_) (fun _ => ?_)) | with_reducible refine condP_intro (fun _ => ?_) (fun _ => ?_))
  all_goals (try simp only [AV.d.injEq, D.int.injEq, D.bool.injEq, true_and, and_true, decide_eq_true_eq, decide_eq_false_iff_not, decide_eq_decide])
  all_goals (try (first | exact diff9 _ _))
  all_goals (try simp only [IntKind.wrap_u32, IntKind.wrap_i32, IntKind.wrap_i64, tmod_round, sAdd, sDiff, sLess, sIn, sShort, sAbs, sNear, sLong] at *)
  all_goals (try simp only [decide_eq_true_eq, decide_eq_false_iff_not, decide_eq_decide, eq_comm (a := false), eq_comm (a := true), Int.not_lt, Int.not_le])
  all_goals first | omega | decide | (refine decide_eq_decide.2 ⟨?_, ?_⟩ <;> intros <;> omega) | ((repeat' split) <;> omega) | (constructor <;> intros <;> omega) | (first | exact diff9 _ _)

set_option maxRecDepth 100000 in
set_option maxHeartbeats 1000000 in
theorem short19 (n : Int) (h0 : -9223372036854775808 ≤ n) (h1 : n < 9223372036854775808) : FnOK Try.prog 19 ([.d (.int .i64 n)]) ([]) (.d (.int .u32 (sShort n))) ([]) := by
  refine fnOK_wp (p := ((4294967296 : Int) ≠ (0 : Int)) ∧ (condP (decide (n.tmod (4294967296 : Int) < (0 : Int))) ((AV.d (D.int IntKind.u32 (IntKind.u32.wrap (IntKind.i64.wrap (n.tmod (4294967296 : Int) + (4294967296 : Int))))) = AV.d (D.int IntKind.u32 (sShort n))) ∧ (True)) ((AV.d (D.int IntKind.u32 (IntKind.u32.wrap (n.tmod (4294967296 : Int)))) = AV.d (D.int IntKind.u32 (sShort n))) ∧ (True)))) (h := {G := G1}) (subs := []) (ws := []) (ρ := []) (by kernel_rfl) ?_
  repeat' (first | with_reducible exact True.intro | with_reducible refine And.intro ?_ ?_ | with_reducible refine condP_dec (fun _ => ?_) (fun _ => ?_) | with_reducible refine condP_eq (fun _ => ?_) (fun _ => ?_) | with_reducible refine condP_ne (fun _ => ?_) (fun _ => ?_) | with_reducible refine condP_not (condP_intro (fun _ => ?_) (fun _ => ?_)) | with_reducible refine condP_intro (fun _ => ?_) (fun _ => ?_))
  all_goals (try simp only [AV.d.injEq, D.int.injEq, D.bool.injEq, true_and, and_true, decide_eq_true_eq, decide_eq_false_iff_not, decide_eq_decide])
  all_goals (try (first | exact diff9 _ _))
  all_goals (try simp only [IntKind.wrap_u32, IntKind.wrap_i32, IntKind.wrap_i64, tmod_round, sAdd, sDiff, sLess, sIn, sShort, sAbs, sNear, sLong] at *)
  all_goals (try simp only [decide_eq_true_eq, decide_eq_false_iff_not, decide_eq_decide, eq_comm (a := false), eq_comm (a := true), Int.not_lt, Int.not_le])
  all_goals first | omega | decide | (refine decide_eq_decide.2 ⟨?_, ?_⟩ <;> intros <;> omega) | ((repeat' split) <;> omega) | (constructor <;> intros <;> omega) | (first | exact diff9 _ _)

set_option maxRecDepth 100000 in
set_option maxHeartbeats 1000000 in
theorem abs22 (n : Int) (h0 : -9223372036854775808 < n) (h1 : n < 9223372036854775808) : FnOK Try.prog 22 ([.d (.int .i64 n)]) ([]) (.d (.int .i64 (sAbs n))) ([]) := by
  refine fnOK_wp (p := condP (decide (n < (0 : Int))) ((AV.d (D.int IntKind.i64 (IntKind.i64.wrap ((0 : Int) - n))) = AV.d (D.int IntKind.i64 (sAbs n))) ∧ (True)) ((AV.d (D.int IntKind.i64 n) = AV.d (D.int IntKind.i64 (sAbs n))) ∧ (True))) (h := {G := G1}) (subs := []) (ws := []) (ρ := []) (by kernel_rfl) ?_
  repeat' (first | with_reducible exact True.intro | with_reducible refine And.intro ?_ ?_ | with_reducible refine condP_dec (fun _ => ?_) (fun _ => ?_) | with_reducible refine condP_eq (fun _ => ?_) (fun _ => ?_) | with_reducible refine condP_ne (fun _ => ?_) (fun _ => ?_) | with_reducible refine condP_not (condP_intro (fun _ => ?_) (fun _ => ?_)) | with_reducible refine condP_intro (fun _ => ?_) (fun _ => ?_))
  all_goals (try simp only [AV.d.injEq, D.int.injEq, D.bool.injEq, true_and, and_true, decide_eq_true_eq, decide_eq_false_iff_not, decide_eq_decide])
  all_goals (try (first | exact diff9 _ _))
  all_goals (try simp only [IntKind.wrap_u32, IntKind.wrap_i32, IntKind.wrap_i64, tmod_round, sAdd, sDiff, sLess, sIn, sShort, sAbs, sNear, sLong] at *)
  all_goals (try simp only [decide_eq_true_eq, decide_eq_false_iff_not, decide_eq_decide, eq_comm (a := false), eq_comm (a := true), Int.not_lt, Int.not_le])
  all_goals first | omega | decide | (refine decide_eq_decide.2 ⟨?_, ?_⟩ <;> intros <;> omega) | ((repeat' split) <;> omega) | (constructor <;> intros <;> omega) | (first | exact diff9 _ _)

set_option maxRecDepth 100000 in
set_option maxHeartbeats 1000000 in
theorem diff10 (a b : Int) (ha : 0 ≤ a) (ha' : a < 4294967296) (hb : 0 ≤ b) (hb' : b < 4294967296) : FnOK Try.prog 10 ([.d (.int .u32 a), .d (.int .u32 b)]) ([]) (.d (.int .i64 (sDiff a b))) ([]) := by
  refine fnOK_wp (p := condP (decide (IntKind.i64.wrap (IntKind.i64.wrap a - IntKind.i64.wrap b) < (-2147483648 : Int))) (condP (decide (IntKind.i64.wrap (IntKind.i64.wrap (IntKind.i64.wrap a - IntKind.i64.wrap b) + (4294967296 : Int)) ≥ (2147483648 : Int))) ((AV.d (D.int IntKind.i64 (IntKind.i64.wrap (IntKind.i64.wrap (IntKind.i64.wrap (IntKind.i64.wrap a - IntKind.i64.wrap b) + (4294967296 : Int)) - (4294967296 : Int)))) = AV.d (D.int IntKind.i64 (sDiff a b))) ∧ (True)) ((AV.d (D.int IntKind.i64 (IntKind.i64.wrap (IntKind.i64.wrap (IntKind.i64.wrap a - IntKind.i64.wrap b) + (4294967296 : Int)))) = AV.d (D.int IntKind.i64 (sDiff a b))) ∧ (True))) (condP (decide (IntKind.i64.wrap (IntKind.i64.wrap a - IntKind.i64.wrap b) ≥ (2147483648 : Int))) ((AV.d (D.int IntKind.i64 (IntKind.i64.wrap (IntKind.i64.wrap (IntKind.i64.wrap a - IntKind.i64.wrap b) - (4294967296 : Int)))) = AV.d (D.int IntKind.i64 (sDiff a b))) ∧ (True)) ((AV.d (D.int IntKind.i64 (IntKind.i64.wrap (IntKind.i64.wrap a - IntKind.i64.wrap b))) = AV.d (D.int IntKind.i64 (sDiff a b))) ∧ (True)))) (h := {G := G1}) (subs := []) (ws := []) (ρ := []) (by kernel_rfl) ?_
  repeat' (first | with_reducible exact True.intro | with_reducible refine And.intro ?_ ?_ | with_reducible refine condP_dec (fun _ => ?_) (fun _ => ?_) | with_reducible refine condP_eq (fun _ => ?_) (fun _ => ?_) | with_reducible refine condP_ne (fun _ => ?_) (fun _ => ?_) | with_reducible refine condP_not (condP_intro (fun _ => ?_) (fun _ => ?_)) | with_reducible refine condP_intro (fun _ => ?_) (fun _ => ?_))
  all_goals (try simp only [AV.d.injEq, D.int.injEq, D.bool.injEq, true_and, and_true, decide_eq_true_eq, decide_eq_false_iff_not, decide_eq_decide])
  all_goals (try (first | exact diff9 _ _))
  all_goals (try simp only [IntKind.wrap_u32, IntKind.wrap_i32, IntKind.wrap_i64, tmod_round, sAdd, sDiff, sLess, sIn, sShort, sAbs, sNear, sLong] at *)
  all_goals (try simp only [decide_eq_true_eq, decide_eq_false_iff_not, decide_eq_decide, eq_comm (a := false), eq_comm (a := true), Int.not_lt, Int.not_le])
  all_goals first | omega | decide | (refine decide_eq_decide.2 ⟨?_, ?_⟩ <;> intros <;> omega) | ((repeat' split) <;> omega) | (constructor <;> intros <;> omega) | (first | exact diff9 _ _)

set_option maxRecDepth 100000 in
set_option maxHeartbeats 1000000 in
theorem less12 (a b : Int) (ha : 0 ≤ a) (ha' : a < 4294967296) (hb : 0 ≤ b) (hb' : b < 4294967296) : FnOK Try.prog 12 ([.d (.int .u32 a), .d (.int .u32 b)]) ([]) (.d (.bool (sLess a b))) ([]) := by
  refine fnOK_wp (p := (FnOK Try.prog (10 : Nat) [AV.d (D.int IntKind.u32 a), AV.d (D.int IntKind.u32 b)] [] (AV.d (D.int IntKind.i64 (sDiff a b))) []) ∧ ((AV.d (D.bool (decide (sDiff a b < (0 : Int)))) = AV.d (D.bool (sLess a b))) ∧ (True))) (h := {G := G1}) (subs := []) (ws := []) (ρ := []) (by kernel_rfl) ?_
  repeat' (first | with_reducible exact True.intro | with_reducible refine And.intro ?_ ?_ | with_reducible refine condP_dec (fun _ => ?_) (fun _ => ?_) | with_reducible refine condP_eq (fun _ => ?_) (fun _ => ?_) | with_reducible refine condP_ne (fun _ => ?_) (fun _ => ?_) | with_reducible refine condP_not (condP_intro (fun _ => ?_) (fun _ => ?_)) | with_reducible refine condP_intro (fun _ => ?_) (fun _ => ?_))
  all_goals (try simp only [AV.d.injEq, D.int.injEq, D.bool.injEq, true_and, and_true, decide_eq_true_eq, decide_eq_false_iff_not, decide_eq_decide])
  all_goals (try (first | exact diff10 _ _ (by omega) (by omega) (by omega) (by omega) | exact diff9 _ _ | exact add7 _ _ | (refine short18 _ ?_ ?_ <;> omega) | (refine short19 _ ?_ ?_ <;> (simp only [IntKind.wrap_u32, IntKind.wrap_i32, IntKind.wrap_i64, tmod_round, sAdd, sDiff, sLess, sIn, sShort, sAbs, sNear, sLong]; (repeat' split) <;> omega))))
  all_goals (try simp only [IntKind.wrap_u32, IntKind.wrap_i32, IntKind.wrap_i64, tmod_round, sAdd, sDiff, sLess, sIn, sShort, sAbs, sNear, sLong] at *)
  all_goals (try simp only [decide_eq_true_eq, decide_eq_false_iff_not, decide_eq_decide, eq_comm (a := false), eq_comm (a := true), Int.not_lt, Int.not_le])
  all_goals first | omega | decide | (refine decide_eq_decide.2 ⟨?_, ?_⟩ <;> intros <;> omega) | ((repeat' split) <;> omega) | (constructor <;> intros <;> omega) | (first | exact diff10 _ _ (by omega) (by omega) (by omega) (by omega) | exact diff9 _ _ | exact add7 _ _ | (refine short18 _ ?_ ?_ <;> omega) | (refine short19 _ ?_ ?_ <;> (simp only [IntKind.wrap_u32, IntKind.wrap_i32, IntKind.wrap_i64, tmod_round, sAdd, sDiff, sLess, sIn, sShort, sAbs, sNear, sLong]; (repeat' split) <;> omega)))

set_option maxRecDepth 100000 in
set_option maxHeartbeats 1000000 in
theorem in13 (a b n : Int) (ha : 0 ≤ a) (ha' : a < 4294967296) (hb : 0 ≤ b) (hb' : b < 4294967296) : FnOK Try.prog 13 ([.d (.int .u32 a), .d (.int .u32 b), .d (.int .i64 n)]) ([]) (.d (.bool (sIn a b n))) ([]) := by
  refine fnOK_wp (p := condP (decide (n > (0 : Int))) ((D.bool (decide (n > (0 : Int))) = D.bool true) ∧ ((AV.d (D.bool (decide (IntKind.i64.wrap (IntKind.u32.wrap (a - b)) < n))) = AV.d (D.bool (sIn a b n))) ∧ (True))) ((D.bool (decide (n > (0 : Int))) = D.bool false) ∧ ((AV.d (D.bool false) = AV.d (D.bool (sIn a b n))) ∧ (True)))) (h := {G := G1}) (subs := []) (ws := []) (ρ := []) (by kernel_rfl) ?_
  repeat' (first | with_reducible exact True.intro | with_reducible refine And.intro ?_ ?_ | with_reducible refine condP_dec (fun _ => ?_) (fun _ => ?_) | with_reducible refine condP_eq (fun _ => ?_) (fun _ => ?_) | with_reducible refine condP_ne (fun _ => ?_) (fun _ => ?_) | with_reducible refine condP_not (condP_intro (fun _ => ?_) (fun _ => ?_)) | with_reducible refine condP_intro (fun _ => ?_) (fun _ => ?_))
  all_goals (try simp only [AV.d.injEq, D.int.injEq, D.bool.injEq, true_and, and_true, decide_eq_true_eq, decide_eq_false_iff_not, decide_eq_decide])
  all_goals (try (first | exact diff10 _ _ (by omega) (by omega) (by omega) (by omega) | exact diff9 _ _ | exact add7 _ _ | (refine short18 _ ?_ ?_ <;> omega) | (refine short19 _ ?_ ?_ <;> (simp only [IntKind.wrap_u32, IntKind.wrap_i32, IntKind.wrap_i64, tmod_round, sAdd, sDiff, sLess, sIn, sShort, sAbs, sNear, sLong]; (repeat' split) <;> omega))))
  all_goals (try simp only [IntKind.wrap_u32, IntKind.wrap_i32, IntKind.wrap_i64, tmod_round, sAdd, sDiff, sLess, sIn, sShort, sAbs, sNear, sLong] at *)
  all_goals (try simp only [decide_eq_true_eq, decide_eq_false_iff_not, decide_eq_decide, eq_comm (a := false), eq_comm (a := true), Int.not_lt, Int.not_le])
  all_goals first | omega | decide | (refine decide_eq_decide.2 ⟨?_, ?_⟩ <;> intros <;> omega) | ((repeat' split) <;> omega) | (constructor <;> intros <;> omega) | (first | exact diff10 _ _ (by omega) (by omega) (by omega) (by omega) | exact diff9 _ _ | exact add7 _ _ | (refine short18 _ ?_ ?_ <;> omega) | (refine short19 _ ?_ ?_ <;> (simp only [IntKind.wrap_u32, IntKind.wrap_i32, IntKind.wrap_i64, tmod_round, sAdd, sDiff, sLess, sIn, sShort, sAbs, sNear, sLong]; (repeat' split) <;> omega)))

set_option maxRecDepth 100000 in
set_option maxHeartbeats 1000000 in
theorem in14 (a b n : Int) (ha : 0 ≤ a) (ha' : a < 4294967296) (hb : 0 ≤ b) (hb' : b < 4294967296) : FnOK Try.prog 14 ([.d (.int .u32 a), .d (.int .u32 b), .d (.int .i64 n)]) ([]) (.d (.bool (sIn a b n))) ([]) := by
  refine fnOK_wp (p := condP (decide (IntKind.i64.wrap (IntKind.i64.wrap a - IntKind.i64.wrap b) < (0 : Int))) ((AV.d (D.bool (decide (IntKind.i64.wrap (IntKind.i64.wrap (IntKind.i64.wrap a - IntKind.i64.wrap b) + (4294967296 : Int)) < n))) = AV.d (D.bool (sIn a b n))) ∧ (True)) ((AV.d (D.bool (decide (IntKind.i64.wrap (IntKind.i64.wrap a - IntKind.i64.wrap b) < n))) = AV.d (D.bool (sIn a b n))) ∧ (True))) (h := {G := G1}) (subs := []) (ws := []) (ρ := []) (by kernel_rfl) ?_
  repeat' (first | with_reducible exact True.intro | with_reducible refine And.intro ?_ ?_ | with_reducible refine condP_dec (fun _ => ?_) (fun _ => ?_) | with_reducible refine condP_eq (fun _ => ?_) (fun _ => ?_) | with_reducible refine condP_ne (fun _ => ?_) (fun _ => ?_) | with_reducible refine condP_not (condP_intro (fun _ => ?_) (fun _ => ?_)) | with_reducible refine condP_intro (fun _ => ?_) (fun _ => ?_))
  all_goals (try simp only [AV.d.injEq, D.int.injEq, D.bool.injEq, true_and, and_true, decide_eq_true_eq, decide_eq_false_iff_not, decide_eq_decide])
  all_goals (try (first | exact diff10 _ _ (by omega) (by omega) (by omega) (by omega) | exact diff9 _ _ | exact add7 _ _ | (refine short18 _ ?_ ?_ <;> omega) | (refine short19 _ ?_ ?_ <;> (simp only [IntKind.wrap_u32, IntKind.wrap_i32, IntKind.wrap_i64, tmod_round, sAdd, sDiff, sLess, sIn, sShort, sAbs, sNear, sLong]; (repeat' split) <;> omega))))
  all_goals (try simp only [IntKind.wrap_u32, IntKind.wrap_i32, IntKind.wrap_i64, tmod_round, sAdd, sDiff, sLess, sIn, sShort, sAbs, sNear, sLong] at *)
  all_goals (try simp only [decide_eq_true_eq, decide_eq_false_iff_not, decide_eq_decide, eq_comm (a := false), eq_comm (a := true), Int.not_lt, Int.not_le])
  all_goals first | omega | decide | (refine decide_eq_decide.2 ⟨?_, ?_⟩ <;> intros <;> omega) | ((repeat' split) <;> omega) | (constructor <;> intros <;> omega) | (first | exact diff10 _ _ (by omega) (by omega) (by omega) (by omega) | exact diff9 _ _ | exact add7 _ _ | (refine short18 _ ?_ ?_ <;> omega) | (refine short19 _ ?_ ?_ <;> (simp only [IntKind.wrap_u32, IntKind.wrap_i32, IntKind.wrap_i64, tmod_round, sAdd, sDiff, sLess, sIn, sShort, sAbs, sNear, sLong]; (repeat' split) <;> omega)))

set_option maxRecDepth 100000 in
set_option maxHeartbeats 1000000 in
theorem long16 (near a : Int) (ha : 0 ≤ a) (ha' : a < 4294967296) : FnOK Try.prog 16 ([.d (.int .i64 near), .d (.int .u32 a)]) ([]) (.d (.int .i64 (sLong near a))) ([]) := by
  refine fnOK_wp (p := (FnOK Try.prog (18 : Nat) [AV.d (D.int IntKind.i64 (max (0 : Int) (min near (1099511627776 : Int))))] [] (AV.d (D.int IntKind.u32 (sShort (max (0 : Int) (min near (1099511627776 : Int)))))) []) ∧ ((FnOK Try.prog (9 : Nat) [AV.d (D.int IntKind.u32 a), AV.d (D.int IntKind.u32 (sShort (max (0 : Int) (min near (1099511627776 : Int)))))] [] (AV.d (D.int IntKind.i64 (sDiff a (sShort (max (0 : Int) (min near (1099511627776 : Int))))))) []) ∧ (condP (decide (IntKind.i64.wrap (max (0 : Int) (min near (1099511627776 : Int)) + sDiff a (sShort (max (0 : Int) (min near (1099511627776 : Int))))) < IntKind.i64.wrap (IntKind.i64.wrap (max (0 : Int) (min near (1099511627776 : Int)) - (2147483648 : Int)) + (1 : Int)))) (condP (decide (IntKind.i64.wrap (IntKind.i64.wrap (max (0 : Int) (min near (1099511627776 : Int)) + sDiff a (sShort (max (0 : Int) (min near (1099511627776 : Int))))) + (4294967296 : Int)) < (0 : Int))) ((AV.d (D.int IntKind.i64 (IntKind.i64.wrap (IntKind.i64.wrap (IntKind.i64.wrap (max (0 : Int) (min near (1099511627776 : Int)) + sDiff a (sShort (max (0 : Int) (min near (1099511627776 : Int))))) + (4294967296 : Int)) + (4294967296 : Int)))) = AV.d (D.int IntKind.i64 (sLong near a))) ∧ (True)) ((AV.d (D.int IntKind.i64 (IntKind.i64.wrap (IntKind.i64.wrap (max (0 : Int) (min near (1099511627776 : Int)) + sDiff a (sShort (max (0 : Int) (min near (1099511627776 : Int))))) + (4294967296 : Int)))) = AV.d (D.int IntKind.i64 (sLong near a))) ∧ (True))) (condP (decide (IntKind.i64.wrap (max (0 : Int) (min near (1099511627776 : Int)) + sDiff a (sShort (max (0 : Int) (min near (1099511627776 : Int))))) < (0 : Int))) ((AV.d (D.int IntKind.i64 (IntKind.i64.wrap (IntKind.i64.wrap (max (0 : Int) (min near (1099511627776 : Int)) + sDiff a (sShort (max (0 : Int) (min near (1099511627776 : Int))))) + (4294967296 : Int)))) = AV.d (D.int IntKind.i64 (sLong near a))) ∧ (True)) ((AV.d (D.int IntKind.i64 (IntKind.i64.wrap (max (0 : Int) (min near (1099511627776 : Int)) + sDiff a (sShort (max (0 : Int) (min near (1099511627776 : Int))))))) = AV.d (D.int IntKind.i64 (sLong near a))) ∧ (True)))))) (h := {G := G1}) (subs := []) (ws := []) (ρ := []) (by kernel_rfl) ?_
  repeat' (first | with_reducible exact True.intro | with_reducible refine And.intro ?_ ?_ | with_reducible refine condP_dec (fun _ => ?_) (fun _ => ?_) | with_reducible refine condP_eq (fun _ => ?_) (fun _ => ?_) | with_reducible refine condP_ne (fun _ => ?_) (fun _ => ?_) | with_reducible refine condP_not (condP_intro (fun _ => ?_) (fun _ => ?_)) | with_reducible refine condP_intro (fun _ => ?_) (fun _ => ?_))
  all_goals (try simp only [AV.d.injEq, D.int.injEq, D.bool.injEq, true_and, and_true, decide_eq_true_eq, decide_eq_false_iff_not, decide_eq_decide])
  all_goals (try (first | exact diff10 _ _ (by omega) (by omega) (by omega) (by omega) | exact diff9 _ _ | exact add7 _ _ | (refine short18 _ ?_ ?_ <;> omega) | (refine short19 _ ?_ ?_ <;> (simp only [IntKind.wrap_u32, IntKind.wrap_i32, IntKind.wrap_i64, tmod_round, sAdd, sDiff, sLess, sIn, sShort, sAbs, sNear, sLong]; (repeat' split) <;> omega))))
  all_goals (try simp only [IntKind.wrap_u32, IntKind.wrap_i32, IntKind.wrap_i64, tmod_round, sAdd, sDiff, sLess, sIn, sShort, sAbs, sNear, sLong] at *)
  all_goals (try simp only [decide_eq_true_eq, decide_eq_false_iff_not, decide_eq_decide, eq_comm (a := false), eq_comm (a := true), Int.not_lt, Int.not_le])
  all_goals first | omega | decide | (refine decide_eq_decide.2 ⟨?_, ?_⟩ <;> intros <;> omega) | ((repeat' split) <;> omega) | (constructor <;> intros <;> omega) | (first | exact diff10 _ _ (by omega) (by omega) (by omega) (by omega) | exact diff9 _ _ | exact add7 _ _ | (refine short18 _ ?_ ?_ <;> omega) | (refine short19 _ ?_ ?_ <;> (simp only [IntKind.wrap_u32, IntKind.wrap_i32, IntKind.wrap_i64, tmod_round, sAdd, sDiff, sLess, sIn, sShort, sAbs, sNear, sLong]; (repeat' split) <;> omega)))

set_option maxRecDepth 100000 in
set_option maxHeartbeats 1000000 in
theorem add8 (a n : Int) (ha : 0 ≤ a) (ha' : a < 4294967296) (h0 : -9223372036854775808 ≤ n) (h1 : n < 9223372036854775808) : FnOK Try.prog 8 ([.d (.int .u32 a), .d (.int .i64 n)]) ([]) (.d (.int .u32 (sAdd a n))) ([]) := by
  refine fnOK_wp (p := ((4294967296 : Int) ≠ (0 : Int)) ∧ ((FnOK Try.prog (19 : Nat) [AV.d (D.int IntKind.i64 (IntKind.i64.wrap (IntKind.i64.wrap a + n.tmod (4294967296 : Int))))] [] (AV.d (D.int IntKind.u32 (sShort (IntKind.i64.wrap (IntKind.i64.wrap a + n.tmod (4294967296 : Int)))))) []) ∧ ((AV.d (D.int IntKind.u32 (sShort (IntKind.i64.wrap (IntKind.i64.wrap a + n.tmod (4294967296 : Int))))) = AV.d (D.int IntKind.u32 (sAdd a n))) ∧ (True)))) (h := {G := G1}) (subs := []) (ws := []) (ρ := []) (by kernel_rfl) ?_
  repeat' (first | with_reducible exact True.intro | with_reducible refine And.intro ?_ ?_ | with_reducible refine condP_dec (fun _ => ?_) (fun _ => ?_) | with_reducible refine condP_eq (fun _ => ?_) (fun _ => ?_) | with_reducible refine condP_ne (fun _ => ?_) (fun _ => ?_) | with_reducible refine condP_not (condP_intro (fun _ => ?_) (fun _ => ?_)) | with_reducible refine condP_intro (fun _ => ?_) (fun _ => ?_))
  all_goals (try simp only [AV.d.injEq, D.int.injEq, D.bool.injEq, true_and, and_true, decide_eq_true_eq, decide_eq_false_iff_not, decide_eq_decide])
  all_goals (try (first | exact diff10 _ _ (by omega) (by omega) (by omega) (by omega) | exact diff9 _ _ | exact add7 _ _ | (refine short18 _ ?_ ?_ <;> omega) | (refine short19 _ ?_ ?_ <;> (simp only [IntKind.wrap_u32, IntKind.wrap_i32, IntKind.wrap_i64, tmod_round, sAdd, sDiff, sLess, sIn, sShort, sAbs, sNear, sLong]; (repeat' split) <;> omega))))
  all_goals (try simp only [IntKind.wrap_u32, IntKind.wrap_i32, IntKind.wrap_i64, tmod_round, sAdd, sDiff, sLess, sIn, sShort, sAbs, sNear, sLong] at *)
  all_goals (try simp only [decide_eq_true_eq, decide_eq_false_iff_not, decide_eq_decide, eq_comm (a := false), eq_comm (a := true), Int.not_lt, Int.not_le])
  all_goals first | omega | decide | (refine decide_eq_decide.2 ⟨?_, ?_⟩ <;> intros <;> omega) | ((repeat' split) <;> omega) | (constructor <;> intros <;> omega) | (first | exact diff10 _ _ (by omega) (by omega) (by omega) (by omega) | exact diff9 _ _ | exact add7 _ _ | (refine short18 _ ?_ ?_ <;> omega) | (refine short19 _ ?_ ?_ <;> (simp only [IntKind.wrap_u32, IntKind.wrap_i32, IntKind.wrap_i64, tmod_round, sAdd, sDiff, sLess, sIn, sShort, sAbs, sNear, sLong]; (repeat' split) <;> omega)))

/-! ### The document's long number, the latest -/
def I17 (near a : Int) (j : Nat) : St := ⟨[(0, .d (.int .i64 near)), (1, .d (.int .u32 a)), (5, .d (.int .i64 (lBest near a j))), (6, .d (.int .i64 ((j : Int) - 1)))], []⟩
def O17 (near a : Int) : St := ⟨[(5, .d (.int .i64 (lBest near a 3)))], []⟩
set_option maxRecDepth 100000 in
set_option maxHeartbeats 1000000 in
theorem r17 (near a : Int) (j : Nat) (hj : j < 3) (h0 : 0 ≤ near) (h1 : near ≤ 1099511627776) (ha : 0 ≤ a) (ha' : a < 4294967296) : Runs Try.prog 0 (loopN Try.prog 17 0) (St.as (I17 near a j) 42) (.normal) (St.as (I17 near a (j+1)) 42) := by
  refine round_wp (p := condP (decide ((↑j : Int) - (1 : Int) ≤ (1 : Int))) (((4294967296 : Int) ≠ (0 : Int)) ∧ (condP (decide (IntKind.i64.wrap (IntKind.i64.wrap (IntKind.i64.wrap (IntKind.i64.wrap (near.tdiv (4294967296 : Int)) + ((↑j : Int) - (1 : Int))) * (4294967296 : Int)) + IntKind.i64.wrap a) ≥ (0 : Int))) (condP (decide (lBest near a j < (0 : Int))) ((D.bool (decide (IntKind.i64.wrap (IntKind.i64.wrap (IntKind.i64.wrap (IntKind.i64.wrap (near.tdiv (4294967296 : Int)) + ((↑j : Int) - (1 : Int))) * (4294967296 : Int)) + IntKind.i64.wrap a) ≥ (0 : Int))) = D.bool true) ∧ ((D.bool (decide (lBest near a j < (0 : Int))) = D.bool true) ∧ ((AV.d (D.int IntKind.i64 near) = AV.d (D.int IntKind.i64 near)) ∧ ((AV.d (D.int IntKind.u32 a) = AV.d (D.int IntKind.u32 a)) ∧ ((AV.d (D.int IntKind.i64 (IntKind.i64.wrap (IntKind.i64.wrap (IntKind.i64.wrap (IntKind.i64.wrap (near.tdiv (4294967296 : Int)) + ((↑j : Int) - (1 : Int))) * (4294967296 : Int)) + IntKind.i64.wrap a))) = AV.d (D.int IntKind.i64 (lBest near a (j + (1 : Nat))))) ∧ ((AV.d (D.int IntKind.i64 (IntKind.i64.wrap ((↑j : Int) - (1 : Int) + (1 : Int)))) = AV.d (D.int IntKind.i64 ((↑(j + (1 : Nat)) : Int) - (1 : Int)))) ∧ (True))))))) ((D.bool (decide (IntKind.i64.wrap (IntKind.i64.wrap (IntKind.i64.wrap (IntKind.i64.wrap (near.tdiv (4294967296 : Int)) + ((↑j : Int) - (1 : Int))) * (4294967296 : Int)) + IntKind.i64.wrap a) ≥ (0 : Int))) = D.bool true) ∧ ((D.bool (decide (lBest near a j < (0 : Int))) = D.bool false) ∧ ((FnOK Try.prog (22 : Nat) [AV.d (D.int IntKind.i64 (IntKind.i64.wrap (IntKind.i64.wrap (IntKind.i64.wrap (IntKind.i64.wrap (IntKind.i64.wrap (near.tdiv (4294967296 : Int)) + ((↑j : Int) - (1 : Int))) * (4294967296 : Int)) + IntKind.i64.wrap a) - near)))] [] (AV.d (D.int IntKind.i64 (sAbs (IntKind.i64.wrap (IntKind.i64.wrap (IntKind.i64.wrap (IntKind.i64.wrap (IntKind.i64.wrap (near.tdiv (4294967296 : Int)) + ((↑j : Int) - (1 : Int))) * (4294967296 : Int)) + IntKind.i64.wrap a) - near))))) []) ∧ ((FnOK Try.prog (22 : Nat) [AV.d (D.int IntKind.i64 (IntKind.i64.wrap (lBest near a j - near)))] [] (AV.d (D.int IntKind.i64 (sAbs (IntKind.i64.wrap (lBest near a j - near))))) []) ∧ (condP (decide (sAbs (IntKind.i64.wrap (IntKind.i64.wrap (IntKind.i64.wrap (IntKind.i64.wrap (IntKind.i64.wrap (near.tdiv (4294967296 : Int)) + ((↑j : Int) - (1 : Int))) * (4294967296 : Int)) + IntKind.i64.wrap a) - near)) ≤ sAbs (IntKind.i64.wrap (lBest near a j - near)))) ((AV.d (D.int IntKind.i64 near) = AV.d (D.int IntKind.i64 near)) ∧ ((AV.d (D.int IntKind.u32 a) = AV.d (D.int IntKind.u32 a)) ∧ ((AV.d (D.int IntKind.i64 (IntKind.i64.wrap (IntKind.i64.wrap (IntKind.i64.wrap (IntKind.i64.wrap (near.tdiv (4294967296 : Int)) + ((↑j : Int) - (1 : Int))) * (4294967296 : Int)) + IntKind.i64.wrap a))) = AV.d (D.int IntKind.i64 (lBest near a (j + (1 : Nat))))) ∧ ((AV.d (D.int IntKind.i64 (IntKind.i64.wrap ((↑j : Int) - (1 : Int) + (1 : Int)))) = AV.d (D.int IntKind.i64 ((↑(j + (1 : Nat)) : Int) - (1 : Int)))) ∧ (True))))) ((AV.d (D.int IntKind.i64 near) = AV.d (D.int IntKind.i64 near)) ∧ ((AV.d (D.int IntKind.u32 a) = AV.d (D.int IntKind.u32 a)) ∧ ((AV.d (D.int IntKind.i64 (lBest near a j)) = AV.d (D.int IntKind.i64 (lBest near a (j + (1 : Nat))))) ∧ ((AV.d (D.int IntKind.i64 (IntKind.i64.wrap ((↑j : Int) - (1 : Int) + (1 : Int)))) = AV.d (D.int IntKind.i64 ((↑(j + (1 : Nat)) : Int) - (1 : Int)))) ∧ (True))))))))))) ((D.bool (decide (IntKind.i64.wrap (IntKind.i64.wrap (IntKind.i64.wrap (IntKind.i64.wrap (near.tdiv (4294967296 : Int)) + ((↑j : Int) - (1 : Int))) * (4294967296 : Int)) + IntKind.i64.wrap a) ≥ (0 : Int))) = D.bool false) ∧ ((AV.d (D.int IntKind.i64 near) = AV.d (D.int IntKind.i64 near)) ∧ ((AV.d (D.int IntKind.u32 a) = AV.d (D.int IntKind.u32 a)) ∧ ((AV.d (D.int IntKind.i64 (lBest near a j)) = AV.d (D.int IntKind.i64 (lBest near a (j + (1 : Nat))))) ∧ ((AV.d (D.int IntKind.i64 (IntKind.i64.wrap ((↑j : Int) - (1 : Int) + (1 : Int)))) = AV.d (D.int IntKind.i64 ((↑(j + (1 : Nat)) : Int) - (1 : Int)))) ∧ (True)))))))) (False)) (h := {G := G1}) (subs := []) (ws := []) (ρ := []) (by kernel_rfl) ?_
  have hb := lBest_bd near a h0 h1 ha ha' j (by omega)
  have hn := lNum_bd near a h0 h1 ha ha' ((j : Int) - 1) (by omega) (by omega)
  have hq := quo_round h0
  have hs : lBest near a (j + 1) = if 0 ≤ lNum near a ((j : Int) - 1) ∧ (lBest near a j < 0 ∨ sAbs (lNum near a ((j : Int) - 1) - near) ≤ sAbs (lBest near a j - near)) then lNum near a ((j : Int) - 1) else lBest near a j := rfl
  have hw : IntKind.i64.wrap (IntKind.i64.wrap (IntKind.i64.wrap (IntKind.i64.wrap (near.tdiv 4294967296) + (↑j - 1)) * 4294967296) + IntKind.i64.wrap a) = lNum near a ((j : Int) - 1) := by
    simp only [IntKind.wrap_i64, hq, lNum]; omega
  have hw2 : IntKind.i64.wrap (lNum near a ((j : Int) - 1) - near) = lNum near a ((j : Int) - 1) - near := by simp only [IntKind.wrap_i64]; omega
  have hw3 : IntKind.i64.wrap (lBest near a j - near) = lBest near a j - near := by simp only [IntKind.wrap_i64]; omega
  have hw4 : IntKind.i64.wrap ((j : Int) - 1 + 1) = ((j + 1 : Nat) : Int) - 1 := by simp only [IntKind.wrap_i64]; omega
  simp only [hw, hw2, hw3, hw4]
  repeat' (first | with_reducible exact True.intro | with_reducible refine And.intro ?_ ?_ | with_reducible refine condP_dec (fun _ => ?_) (fun _ => ?_) | with_reducible refine condP_eq (fun _ => ?_) (fun _ => ?_) | with_reducible refine condP_ne (fun _ => ?_) (fun _ => ?_) | with_reducible refine condP_not (condP_intro (fun _ => ?_) (fun _ => ?_)) | with_reducible refine condP_intro (fun _ => ?_) (fun _ => ?_))
  all_goals (try simp only [AV.d.injEq, D.int.injEq, D.bool.injEq, true_and, and_true, decide_eq_true_eq, decide_eq_false_iff_not, decide_eq_decide])
  all_goals (try (first | exact diff10 _ _ (by omega) (by omega) (by omega) (by omega) | exact diff9 _ _ | exact add7 _ _ | (refine abs22 _ ?_ ?_ <;> omega)))
  all_goals first | omega | decide | (rw [hs]; split <;> omega)

set_option maxRecDepth 100000 in
set_option maxHeartbeats 1000000 in
theorem q17 (near a : Int) : Runs Try.prog 0 (loopN Try.prog 17 0) (St.as (I17 near a 3) 42) (.exit 0) (St.as (O17 near a) 42) := by
  refine round_wp (p := (AV.d (D.int IntKind.i64 (lBest near a (3 : Nat))) = AV.d (D.int IntKind.i64 (lBest near a (3 : Nat)))) ∧ (True)) (h := {G := G1}) (subs := []) (ws := []) (ρ := []) (by kernel_rfl) ?_
  repeat' (first | with_reducible exact True.intro | with_reducible refine And.intro ?_ ?_ | with_reducible refine condP_dec (fun _ => ?_) (fun _ => ?_) | with_reducible refine condP_eq (fun _ => ?_) (fun _ => ?_) | with_reducible refine condP_ne (fun _ => ?_) (fun _ => ?_) | with_reducible refine condP_not (condP_intro (fun _ => ?_) (fun _ => ?_)) | with_reducible refine condP_intro (fun _ => ?_) (fun _ => ?_))
  all_goals (try simp only [AV.d.injEq, D.int.injEq, D.bool.injEq, true_and, and_true, decide_eq_true_eq, decide_eq_false_iff_not, decide_eq_decide])
  all_goals (try (first | exact diff10 _ _ (by omega) (by omega) (by omega) (by omega) | exact diff9 _ _ | exact add7 _ _ | (refine abs22 _ ?_ ?_ <;> omega)))
  all_goals (try simp only [IntKind.wrap_u32, IntKind.wrap_i32, IntKind.wrap_i64, tmod_round, sAdd, sDiff, sLess, sIn, sShort, sAbs, sNear, sLong] at *)
  all_goals (try simp only [decide_eq_true_eq, decide_eq_false_iff_not, decide_eq_decide, eq_comm (a := false), eq_comm (a := true), Int.not_lt, Int.not_le])
  all_goals first | omega | decide | (refine decide_eq_decide.2 ⟨?_, ?_⟩ <;> intros <;> omega) | ((repeat' split) <;> omega) | (constructor <;> intros <;> omega) | (first | exact diff10 _ _ (by omega) (by omega) (by omega) (by omega) | exact diff9 _ _ | exact add7 _ _ | (refine abs22 _ ?_ ?_ <;> omega))

theorem l17 (near a : Int) (h0 : 0 ≤ near) (h1 : near ≤ 1099511627776) (ha : 0 ≤ a) (ha' : a < 4294967296) : Loops Try.prog 0 (loopN Try.prog 17 0) ((I17 near a 0).as 42) (.exit 0) ((O17 near a).as 42) :=
  loops_n (I := fun j => (I17 near a j).as 42) (by simp) 3 0 (by omega) (fun j _ hj => r17 near a j hj h0 h1 ha ha') (q17 near a)
set_option maxRecDepth 100000 in
set_option maxHeartbeats 1000000 in
theorem long17 (near a : Int) (ha : 0 ≤ a) (ha' : a < 4294967296) : FnOK Try.prog 17 ([.d (.int .i64 near), .d (.int .u32 a)]) ([]) (.d (.int .i64 (sLong near a))) ([]) := by
  refine fnOK_wp (p := (AV.d (D.int IntKind.i64 (min (1099511627776 : Int) (max (0 : Int) near))) = AV.d (D.int IntKind.i64 (min (1099511627776 : Int) (max (0 : Int) near)))) ∧ ((AV.d (D.int IntKind.u32 a) = AV.d (D.int IntKind.u32 a)) ∧ ((AV.d (D.int IntKind.i64 (-1 : Int)) = AV.d (D.int IntKind.i64 (lBest (min (1099511627776 : Int) (max (0 : Int) near)) a (0 : Nat)))) ∧ ((AV.d (D.int IntKind.i64 (-1 : Int)) = AV.d (D.int IntKind.i64 (-1 : Int))) ∧ ((LoopsS Try.prog (0 : Nat) (loopN Try.prog (17 : Nat) (0 : Nat)) (I17 (min (1099511627776 : Int) (max (0 : Int) near)) a (0 : Nat)) (Exit.exit (0 : Nat)) (O17 (min (1099511627776 : Int) (max (0 : Int) near)) a) (42 : Nat)) ∧ ((AV.d (D.int IntKind.i64 (lBest (min (1099511627776 : Int) (max (0 : Int) near)) a (3 : Nat))) = AV.d (D.int IntKind.i64 (sLong near a))) ∧ (True))))))) (h := {G := G1}) (subs := [⟨[], [], I17 (min 1099511627776 (max 0 near)) a 0, .exit 0, O17 (min 1099511627776 (max 0 near)) a⟩]) (ws := []) (ρ := []) (by kernel_rfl) ?_
  have hn : sNear near = min (1099511627776 : Int) (max (0 : Int) near) := by unfold sNear; omega
  have hl := lBest_eq near a ha ha'
  rw [hn] at hl
  repeat' (first | with_reducible exact True.intro | with_reducible refine And.intro ?_ ?_ | with_reducible refine condP_dec (fun _ => ?_) (fun _ => ?_) | with_reducible refine condP_eq (fun _ => ?_) (fun _ => ?_) | with_reducible refine condP_ne (fun _ => ?_) (fun _ => ?_) | with_reducible refine condP_not (condP_intro (fun _ => ?_) (fun _ => ?_)) | with_reducible refine condP_intro (fun _ => ?_) (fun _ => ?_))
  all_goals (try simp only [AV.d.injEq, D.int.injEq, D.bool.injEq, true_and, and_true, decide_eq_true_eq, decide_eq_false_iff_not, decide_eq_decide])
  · rfl
  · exact l17 _ a (by omega) (by omega) ha ha'
  · exact hl

end Go.Proofs.Ytnigaimmobfhoaa
