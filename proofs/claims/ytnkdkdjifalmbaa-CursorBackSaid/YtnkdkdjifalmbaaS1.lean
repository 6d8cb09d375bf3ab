/-
laws 01: bytes read from the front: contracts of the program's functions and of the document's. Texts of less than 2^46 bytes.
-/
import Derived.Test.YtnkdkdjifalmbaaS0
import Derived.Test.YtnkdkdjifalmbaaProg
import Derived.KernelRfl
set_option linter.unusedSimpArgs false
set_option linter.unusedVariables false
namespace Go.Proofs.Ytnkdkdjifalmbaa
open Sx Go.RowKit

def gC (f : Cur → AV) : List D → Option (AV × List Ob)
  | [.agg [.str s, .int _ i, .int _ b]] => some (f ⟨s, i, b⟩, [])
  | _ => none
def gCn (f : Cur → Int → AV) : List D → Option (AV × List Ob)
  | [.agg [.str s, .int _ i, .int _ b], .int _ n] => some (f ⟨s, i, b⟩ n, [])
  | _ => none
def inB (c : Cur) : Bool := decide (cIn c)
def G1 : List (Nat × (List D → Option (AV × List Ob))) := [
  (26, gC fun c => .d (.bool (inB c))), (28, gC fun c => .d (.bool (inB c))),
  (27, gCn fun c e => .d (cD (cFail c e))),
  (16, gC fun c => .d (.int .i64 (cLeft c))), (17, gC fun c => .d (.int .i64 (cLeft c))),
  (18, gC fun c => .d (.int .i64 (cDone c))), (19, gC fun c => .d (.int .i64 (cDone c))),
  (11, gCn fun c n => .tup [.d (cD (cTakeC c n)), .d (.str (cTakeS c n))]), (12, gCn fun c n => .tup [.d (cD (cTakeC c n)), .d (.str (cTakeS c n))]),
  (9, gCn fun c n => .tup [.d (cD (cNumC c n)), .d (.int .i64 (cNumN c n))]), (10, gCn fun c n => .tup [.d (cD (cNumC c n)), .d (.int .i64 (cNumN c n))]),
  (13, gC fun c => .tup [.d (cD (cTakeC c (cLeft c))), .d (.str (cTakeS c (cLeft c)))]), (14, gC fun c => .tup [.d (cD (cTakeC c (cLeft c))), .d (.str (cTakeS c (cLeft c)))]),
  (20, fun | [.str s] => some (.d (cD (cOpen s)), []) | _ => none), (21, fun | [.str s] => some (.d (cD (cOpen s)), []) | _ => none),
  (8, gC fun c => .d (cD c)), (15, gC fun c => .d (cD c))]
set_option maxRecDepth 100000 in
set_option maxHeartbeats 1000000 in
theorem within26 (c : Cur) : FnOK Try.prog 26 ([.d (cD c)]) ([]) (.d (.bool (inB c))) ([]) := by
  refine fnOK_wp (p := condP (decide ((0 : Int) ≤ c.i)) ((D.bool (decide ((0 : Int) ≤ c.i)) = D.bool true) ∧ ((AV.d (D.bool (decide (c.i ≤ (↑c.d.length : Int)))) = AV.d (D.bool (inB c))) ∧ (True))) ((D.bool (decide ((0 : Int) ≤ c.i)) = D.bool false) ∧ ((AV.d (D.bool false) = AV.d (D.bool (inB c))) ∧ (True)))) (h := {}) (subs := []) (ws := []) (ρ := []) (by kernel_rfl) ?_
  repeat' (first | with_reducible exact True.intro | with_reducible refine And.intro ?_ ?_ | with_reducible refine condP_dec (fun _ => ?_) (fun _ => ?_) | with_reducible refine condP_eq (fun _ => ?_) (fun _ => ?_) | with_reducible refine condP_ne (fun _ => ?_) (fun _ => ?_) | with_reducible refine condP_not (condP_dec (fun _ => ?_) (fun _ => ?_)) | with_reducible refine condP_not (condP_eq (fun _ => ?_) (fun _ => ?_)) | with_reducible refine condP_not (condP_intro (fun _ => ?_) (fun _ => ?_)) | with_reducible refine condP_intro (fun _ => ?_) (fun _ => ?_))
  all_goals first | exact dyes (by assumption) | exact dno (by assumption) | (refine dbool (decide_eq_decide.2 ?_ : _ = decide (cIn c)); unfold cIn; omega) | (refine dbool (decide_eq_false ?_ : decide (cIn c) = false).symm; unfold cIn; omega)

set_option maxRecDepth 100000 in
set_option maxHeartbeats 1000000 in
theorem in28 (c : Cur) : FnOK Try.prog 28 ([.d (cD c)]) ([]) (.d (.bool (inB c))) ([]) := by
  refine fnOK_wp (p := condP (decide (c.i ≥ (0 : Int))) ((D.bool (decide (c.i ≥ (0 : Int))) = D.bool true) ∧ ((AV.d (D.bool (decide (c.i ≤ (↑c.d.length : Int)))) = AV.d (D.bool (inB c))) ∧ (True))) ((D.bool (decide (c.i ≥ (0 : Int))) = D.bool false) ∧ ((AV.d (D.bool false) = AV.d (D.bool (inB c))) ∧ (True)))) (h := {}) (subs := []) (ws := []) (ρ := []) (by kernel_rfl) ?_
  repeat' (first | with_reducible exact True.intro | with_reducible refine And.intro ?_ ?_ | with_reducible refine condP_dec (fun _ => ?_) (fun _ => ?_) | with_reducible refine condP_eq (fun _ => ?_) (fun _ => ?_) | with_reducible refine condP_ne (fun _ => ?_) (fun _ => ?_) | with_reducible refine condP_not (condP_dec (fun _ => ?_) (fun _ => ?_)) | with_reducible refine condP_not (condP_eq (fun _ => ?_) (fun _ => ?_)) | with_reducible refine condP_not (condP_intro (fun _ => ?_) (fun _ => ?_)) | with_reducible refine condP_intro (fun _ => ?_) (fun _ => ?_))
  all_goals first | exact dyes (by assumption) | exact dno (by assumption) | (refine dbool (decide_eq_decide.2 ?_ : _ = decide (cIn c)); unfold cIn; omega) | (refine dbool (decide_eq_false ?_ : decide (cIn c) = false).symm; unfold cIn; omega)

theorem cDeq {s s' : List UInt8} {i b : Int} {y : Cur} (e1 : s = y.d) (e2 : i = y.i) (e3 : b = y.b) : AV.d (D.agg [D.str s, D.int .i64 i, D.int .i64 b]) = AV.d (cD y) := by rw [e1, e2, e3]; rfl
set_option maxRecDepth 100000 in
set_option maxHeartbeats 1000000 in
theorem fail27 (c : Cur) (e : Int) : FnOK Try.prog 27 ([.d (cD c), .d (.int .i64 e)]) ([]) (.d (cD (cFail c e))) ([]) := by
  refine fnOK_wp (p := condP (c.b == (0 : Int)) ((AV.d (D.agg [D.str c.d, D.int IntKind.i64 c.i, D.int IntKind.i64 e]) = AV.d (D.agg [D.str (cFail c e).d, D.int IntKind.i64 (cFail c e).i, D.int IntKind.i64 (cFail c e).b])) ∧ (True)) ((AV.d (D.agg [D.str c.d, D.int IntKind.i64 c.i, D.int IntKind.i64 c.b]) = AV.d (D.agg [D.str (cFail c e).d, D.int IntKind.i64 (cFail c e).i, D.int IntKind.i64 (cFail c e).b])) ∧ (True))) (h := {}) (subs := []) (ws := []) (ρ := []) (by kernel_rfl) ?_
  refine condP_eq (fun h => ⟨?_, trivial⟩) (fun h => ⟨?_, trivial⟩)
  · exact congrArg (fun y => AV.d (cD y)) (show _ = cFail c e from (if_pos h).symm)
  · exact congrArg (fun y => AV.d (cD y)) (show _ = cFail c e from (if_neg h).symm)

theorem inB_t {c : Cur} (h : inB c = true) : cIn c := of_decide_eq_true h
theorem inB_f {c : Cur} (h : inB c = false) : ¬ cIn c := of_decide_eq_false h
theorem len_in {c : Cur} (h : cIn c) (hn : c.d.length < 70368744177664) : 0 ≤ c.i ∧ c.i ≤ (c.d.length : Int) ∧ IntKind.i64.wrap ((c.d.length : Int) - c.i) = (c.d.length : Int) - c.i := by
  unfold cIn at h
  refine ⟨h.1, h.2, ?_⟩
  rw [IntKind.wrap_i64]; omega
set_option maxRecDepth 100000 in
set_option maxHeartbeats 1000000 in
theorem left16 (c : Cur) (hn : c.d.length < 70368744177664) : FnOK Try.prog 16 ([.d (cD c)]) ([]) (.d (.int .i64 (cLeft c))) ([]) := by
  refine fnOK_wp (p := condP (c.b == (0 : Int)) ((D.bool (c.b == (0 : Int)) = D.bool true) ∧ ((FnOK Try.prog (26 : Nat) [AV.d (D.agg [D.str c.d, D.int IntKind.i64 c.i, D.int IntKind.i64 c.b])] [] (AV.d (D.bool (inB c))) []) ∧ (condP (inB c) ((AV.d (D.int IntKind.i64 (IntKind.i64.wrap ((↑c.d.length : Int) - c.i))) = AV.d (D.int IntKind.i64 (cLeft c))) ∧ (True)) ((AV.d (D.int IntKind.i64 (0 : Int)) = AV.d (D.int IntKind.i64 (cLeft c))) ∧ (True))))) ((D.bool (c.b == (0 : Int)) = D.bool false) ∧ ((AV.d (D.int IntKind.i64 (0 : Int)) = AV.d (D.int IntKind.i64 (cLeft c))) ∧ (True)))) (h := {G := G1}) (subs := []) (ws := []) (ρ := []) (by kernel_rfl) ?_
  repeat' (first | with_reducible exact True.intro | with_reducible refine And.intro ?_ ?_ | with_reducible refine condP_dec (fun _ => ?_) (fun _ => ?_) | with_reducible refine condP_eq (fun _ => ?_) (fun _ => ?_) | with_reducible refine condP_ne (fun _ => ?_) (fun _ => ?_) | with_reducible refine condP_not (condP_dec (fun _ => ?_) (fun _ => ?_)) | with_reducible refine condP_not (condP_eq (fun _ => ?_) (fun _ => ?_)) | with_reducible refine condP_not (condP_intro (fun _ => ?_) (fun _ => ?_)) | with_reducible refine condP_intro (fun _ => ?_) (fun _ => ?_))
  all_goals first | first | exact within26 _ | exact in28 _ | exact fail27 _ _ | rfl | exact dyes (by assumption) | exact dno (by assumption) | exact congrArg D.bool (by assumption) | exact congrArg D.bool (beq_t (by assumption)) | exact congrArg D.bool (beq_f (by assumption)) | exact congrArg D.bool (bne_t (by assumption)) | exact congrArg D.bool (bne_f (by assumption)) | skip
  all_goals first | (have hi := len_in (c := c) (inB_t (by assumption)) hn; rw [left_yes (by assumption) (inB_t (by assumption)), hi.2.2]; done) | (rw [left_no (fun g => absurd g.1 (by assumption))]; done) | (rw [left_no (fun g => absurd g.2 (inB_f (by assumption)))]; done)

set_option maxRecDepth 100000 in
set_option maxHeartbeats 1000000 in
theorem left17 (c : Cur) (hn : c.d.length < 70368744177664) : FnOK Try.prog 17 ([.d (cD c)]) ([]) (.d (.int .i64 (cLeft c))) ([]) := by
  refine fnOK_wp (p := condP (c.b != (0 : Int)) ((D.bool (c.b != (0 : Int)) = D.bool true) ∧ ((AV.d (D.int IntKind.i64 (0 : Int)) = AV.d (D.int IntKind.i64 (cLeft c))) ∧ (True))) ((D.bool (c.b != (0 : Int)) = D.bool false) ∧ ((FnOK Try.prog (28 : Nat) [AV.d (D.agg [D.str c.d, D.int IntKind.i64 c.i, D.int IntKind.i64 c.b])] [] (AV.d (D.bool (inB c))) []) ∧ (condP (!inB c) ((AV.d (D.int IntKind.i64 (0 : Int)) = AV.d (D.int IntKind.i64 (cLeft c))) ∧ (True)) ((AV.d (D.int IntKind.i64 (IntKind.i64.wrap ((↑c.d.length : Int) - c.i))) = AV.d (D.int IntKind.i64 (cLeft c))) ∧ (True)))))) (h := {G := G1}) (subs := []) (ws := []) (ρ := []) (by kernel_rfl) ?_
  repeat' (first | with_reducible exact True.intro | with_reducible refine And.intro ?_ ?_ | with_reducible refine condP_dec (fun _ => ?_) (fun _ => ?_) | with_reducible refine condP_eq (fun _ => ?_) (fun _ => ?_) | with_reducible refine condP_ne (fun _ => ?_) (fun _ => ?_) | with_reducible refine condP_not (condP_dec (fun _ => ?_) (fun _ => ?_)) | with_reducible refine condP_not (condP_eq (fun _ => ?_) (fun _ => ?_)) | with_reducible refine condP_not (condP_intro (fun _ => ?_) (fun _ => ?_)) | with_reducible refine condP_intro (fun _ => ?_) (fun _ => ?_))
  all_goals first | first | exact within26 _ | exact in28 _ | exact fail27 _ _ | rfl | exact dyes (by assumption) | exact dno (by assumption) | exact congrArg D.bool (by assumption) | exact congrArg D.bool (beq_t (by assumption)) | exact congrArg D.bool (beq_f (by assumption)) | exact congrArg D.bool (bne_t (by assumption)) | exact congrArg D.bool (bne_f (by assumption)) | skip
  all_goals first | (have hi := len_in (c := c) (inB_t (by assumption)) hn; rw [left_yes (by assumption) (inB_t (by assumption)), hi.2.2]; done) | (rw [left_no (fun g => absurd g.1 (by assumption))]; done) | (rw [left_no (fun g => absurd g.2 (inB_f (by assumption)))]; done)

set_option maxRecDepth 100000 in
set_option maxHeartbeats 1000000 in
theorem done18 (c : Cur) (hn : c.d.length < 70368744177664) : FnOK Try.prog 18 ([.d (cD c)]) ([]) (.d (.int .i64 (cDone c))) ([]) := by
  refine fnOK_wp (p := condP (c.b != (0 : Int)) ((AV.d (D.int IntKind.i64 c.b) = AV.d (D.int IntKind.i64 (cDone c))) ∧ (True)) ((FnOK Try.prog (26 : Nat) [AV.d (D.agg [D.str c.d, D.int IntKind.i64 c.i, D.int IntKind.i64 c.b])] [] (AV.d (D.bool (inB c))) []) ∧ (condP (!inB c) ((AV.d (D.int IntKind.i64 (8 : Int)) = AV.d (D.int IntKind.i64 (cDone c))) ∧ (True)) (condP (decide (c.i < (↑c.d.length : Int))) ((AV.d (D.int IntKind.i64 (4 : Int)) = AV.d (D.int IntKind.i64 (cDone c))) ∧ (True)) ((AV.d (D.int IntKind.i64 (0 : Int)) = AV.d (D.int IntKind.i64 (cDone c))) ∧ (True)))))) (h := {G := G1}) (subs := []) (ws := []) (ρ := []) (by kernel_rfl) ?_
  repeat' (first | with_reducible exact True.intro | with_reducible refine And.intro ?_ ?_ | with_reducible refine condP_dec (fun _ => ?_) (fun _ => ?_) | with_reducible refine condP_eq (fun _ => ?_) (fun _ => ?_) | with_reducible refine condP_ne (fun _ => ?_) (fun _ => ?_) | with_reducible refine condP_not (condP_dec (fun _ => ?_) (fun _ => ?_)) | with_reducible refine condP_not (condP_eq (fun _ => ?_) (fun _ => ?_)) | with_reducible refine condP_not (condP_intro (fun _ => ?_) (fun _ => ?_)) | with_reducible refine condP_intro (fun _ => ?_) (fun _ => ?_))
  all_goals first | first | exact within26 _ | exact in28 _ | exact fail27 _ _ | rfl | exact dyes (by assumption) | exact dno (by assumption) | exact congrArg D.bool (by assumption) | exact congrArg D.bool (beq_t (by assumption)) | exact congrArg D.bool (beq_f (by assumption)) | exact congrArg D.bool (bne_t (by assumption)) | exact congrArg D.bool (bne_f (by assumption)) | skip
  all_goals first | (rw [done_bad (by assumption)]; done) | (rw [done_out (by assumption) (inB_f (by assumption))]; done) | (rw [done_more (by assumption) (inB_t (by assumption)) (by assumption)]; done) | (rw [done_all (by assumption) (inB_t (by assumption)) (by assumption)]; done)

set_option maxRecDepth 100000 in
set_option maxHeartbeats 1000000 in
theorem done19 (c : Cur) (hn : c.d.length < 70368744177664) : FnOK Try.prog 19 ([.d (cD c)]) ([]) (.d (.int .i64 (cDone c))) ([]) := by
  refine fnOK_wp (p := condP (c.b != (0 : Int)) ((AV.d (D.int IntKind.i64 c.b) = AV.d (D.int IntKind.i64 (cDone c))) ∧ (True)) ((FnOK Try.prog (28 : Nat) [AV.d (D.agg [D.str c.d, D.int IntKind.i64 c.i, D.int IntKind.i64 c.b])] [] (AV.d (D.bool (inB c))) []) ∧ (condP (!inB c) ((AV.d (D.int IntKind.i64 (8 : Int)) = AV.d (D.int IntKind.i64 (cDone c))) ∧ (True)) ((FnOK Try.prog (17 : Nat) [AV.d (D.agg [D.str c.d, D.int IntKind.i64 c.i, D.int IntKind.i64 c.b])] [] (AV.d (D.int IntKind.i64 (cLeft c))) []) ∧ (condP (decide (cLeft c > (0 : Int))) ((AV.d (D.int IntKind.i64 (4 : Int)) = AV.d (D.int IntKind.i64 (cDone c))) ∧ (True)) ((AV.d (D.int IntKind.i64 (0 : Int)) = AV.d (D.int IntKind.i64 (cDone c))) ∧ (True))))))) (h := {G := G1}) (subs := []) (ws := []) (ρ := []) (by kernel_rfl) ?_
  repeat' (first | with_reducible exact True.intro | with_reducible refine And.intro ?_ ?_ | with_reducible refine condP_dec (fun _ => ?_) (fun _ => ?_) | with_reducible refine condP_eq (fun _ => ?_) (fun _ => ?_) | with_reducible refine condP_ne (fun _ => ?_) (fun _ => ?_) | with_reducible refine condP_not (condP_dec (fun _ => ?_) (fun _ => ?_)) | with_reducible refine condP_not (condP_eq (fun _ => ?_) (fun _ => ?_)) | with_reducible refine condP_not (condP_intro (fun _ => ?_) (fun _ => ?_)) | with_reducible refine condP_intro (fun _ => ?_) (fun _ => ?_))
  all_goals first | first | exact within26 _ | exact in28 _ | exact fail27 _ _ | rfl | exact dyes (by assumption) | exact dno (by assumption) | exact congrArg D.bool (by assumption) | exact congrArg D.bool (beq_t (by assumption)) | exact congrArg D.bool (beq_f (by assumption)) | exact congrArg D.bool (bne_t (by assumption)) | exact congrArg D.bool (bne_f (by assumption)) | exact left17 c hn | skip
  all_goals first | (rw [done_bad (by assumption)]; done) | (rw [done_out (by assumption) (inB_f (by assumption))]; done) | (have hi := left_yes (c := c) (by assumption) (inB_t (by assumption)); first | (rw [done_more (by assumption) (inB_t (by assumption)) (by omega)]; done) | (rw [done_all (by assumption) (inB_t (by assumption)) (by omega)]; done))

set_option maxRecDepth 100000 in
set_option maxHeartbeats 1000000 in
theorem open20 (s : List UInt8) : FnOK Try.prog 20 ([.d (.str s)]) ([]) (.d (cD (cOpen s))) ([]) := by
  refine fnOK_wp (p := (AV.d (D.agg [D.str s, D.int IntKind.i64 (0 : Int), D.int IntKind.i64 (0 : Int)]) = AV.d (D.agg [D.str (cOpen s).d, D.int IntKind.i64 (cOpen s).i, D.int IntKind.i64 (cOpen s).b])) ∧ (True)) (h := {}) (subs := []) (ws := []) (ρ := []) (by kernel_rfl) ?_
  exact ⟨rfl, trivial⟩

set_option maxRecDepth 100000 in
set_option maxHeartbeats 1000000 in
theorem open21 (s : List UInt8) : FnOK Try.prog 21 ([.d (.str s)]) ([]) (.d (cD (cOpen s))) ([]) := by
  refine fnOK_wp (p := (AV.d (D.agg [D.str s, D.int IntKind.i64 (0 : Int), D.int IntKind.i64 (0 : Int)]) = AV.d (D.agg [D.str (cOpen s).d, D.int IntKind.i64 (cOpen s).i, D.int IntKind.i64 (cOpen s).b])) ∧ (True)) (h := {}) (subs := []) (ws := []) (ρ := []) (by kernel_rfl) ?_
  exact ⟨rfl, trivial⟩

set_option maxRecDepth 100000 in
set_option maxHeartbeats 1000000 in
theorem own8 (c : Cur) : FnOK Try.prog 8 ([.d (cD c)]) ([]) (.d (cD c)) ([]) := by
  refine fnOK_wp (p := (AV.d (D.agg [D.str c.d, D.int IntKind.i64 c.i, D.int IntKind.i64 c.b]) = AV.d (D.agg [D.str c.d, D.int IntKind.i64 c.i, D.int IntKind.i64 c.b])) ∧ (True)) (h := {}) (subs := []) (ws := []) (ρ := []) (by kernel_rfl) ?_
  exact ⟨rfl, trivial⟩

set_option maxRecDepth 100000 in
set_option maxHeartbeats 1000000 in
theorem back15 (c : Cur) : FnOK Try.prog 15 ([.d (cD c)]) ([]) (.d (cD c)) ([]) := by
  refine fnOK_wp (p := (AV.d (D.agg [D.str c.d, D.int IntKind.i64 c.i, D.int IntKind.i64 c.b]) = AV.d (D.agg [D.str c.d, D.int IntKind.i64 c.i, D.int IntKind.i64 c.b])) ∧ (True)) (h := {}) (subs := []) (ws := []) (ρ := []) (by kernel_rfl) ?_
  exact ⟨rfl, trivial⟩

def tkA (c : Cur) (n : Int) : AV := .tup [.d (cD (cTakeC c n)), .d (.str (cTakeS c n))]
theorem tk {c y : Cur} {n : Int} {s : List UInt8} (h : cTakeC c n = y ∧ cTakeS c n = s) : AV.tup [AV.d (D.agg [D.str y.d, D.int .i64 y.i, D.int .i64 y.b]), AV.d (D.str s)] = tkA c n := by unfold tkA; rw [h.1, h.2]; rfl
theorem fail_is {c : Cur} {e : Int} (h : c.b = 0) : cFail c e = ⟨c.d, c.i, e⟩ := if_pos h
theorem fail_bad {c : Cur} {e : Int} (h : c.b ≠ 0) : cFail c e = c := if_neg h
theorem takeF_out {c : Cur} {n : Int} (g : ¬ cIn c) : cTakeC c n = cFail c 8 ∧ cTakeS c n = [] := by
  by_cases h : c.b = 0
  · rw [fail_is h]; exact take_out h g
  · rw [fail_bad h]; exact take_bad h
theorem takeF_neg {c : Cur} {n : Int} (g : cIn c) (k : n < 0) : cTakeC c n = cFail c 2 ∧ cTakeS c n = [] := by
  by_cases h : c.b = 0
  · rw [fail_is h]; exact take_neg h g k
  · rw [fail_bad h]; exact take_bad h
theorem takeF_cut {c : Cur} {n : Int} (g : cIn c) (k : ¬ n < 0) (m : n > cLeft c) : cTakeC c n = cFail c 3 ∧ cTakeS c n = [] := by
  by_cases h : c.b = 0
  · rw [fail_is h]; rw [left_yes h g] at m; exact take_cut h g k (by omega)
  · rw [fail_bad h]; exact take_bad h
theorem take_end {c : Cur} {n : Int} (hn : c.d.length < 70368744177664) (h : c.b = 0) (g : cIn c) (k : ¬ n < 0) (m : ¬ n > cLeft c) : IntKind.i64.wrap (c.i + n) = c.i + n ∧ 0 ≤ c.i ∧ c.i ≤ c.i + n ∧ c.i + n ≤ (c.d.length : Int) ∧ tkA c n = AV.tup [AV.d (D.agg [D.str c.d, D.int .i64 (c.i + n), D.int .i64 0]), AV.d (D.str ((c.d.take (c.i + n).toNat).drop c.i.toNat))] := by
  rw [left_yes h g] at m
  have := take_yes h g k (by omega)
  have g' := g
  unfold cIn at g'
  refine ⟨by rw [IntKind.wrap_i64]; omega, by omega, by omega, by omega, ?_⟩
  exact (tk this).symm
set_option maxRecDepth 100000 in
set_option maxHeartbeats 1000000 in
theorem take11 (c : Cur) (hn : c.d.length < 70368744177664) (n : Int) : FnOK Try.prog 11 ([.d (cD c), .d (.int .i64 n)]) ([]) (tkA c n) ([]) := by
  refine fnOK_wp (p := (FnOK Try.prog (26 : Nat) [AV.d (D.agg [D.str c.d, D.int IntKind.i64 c.i, D.int IntKind.i64 c.b])] [] (AV.d (D.bool (inB c))) []) ∧ (condP (!inB c) ((FnOK Try.prog (27 : Nat) [AV.d (D.agg [D.str c.d, D.int IntKind.i64 c.i, D.int IntKind.i64 c.b]), AV.d (D.int IntKind.i64 (8 : Int))] [] (AV.d (D.agg [D.str (cFail c (8 : Int)).d, D.int IntKind.i64 (cFail c (8 : Int)).i, D.int IntKind.i64 (cFail c (8 : Int)).b])) []) ∧ ((AV.tup [AV.d (D.agg [D.str (cFail c (8 : Int)).d, D.int IntKind.i64 (cFail c (8 : Int)).i, D.int IntKind.i64 (cFail c (8 : Int)).b]), AV.d (D.str [])] = AV.tup [AV.d (D.agg [D.str (cTakeC c n).d, D.int IntKind.i64 (cTakeC c n).i, D.int IntKind.i64 (cTakeC c n).b]), AV.d (D.str (cTakeS c n))]) ∧ (True))) (condP (decide (n < (0 : Int))) ((FnOK Try.prog (27 : Nat) [AV.d (D.agg [D.str c.d, D.int IntKind.i64 c.i, D.int IntKind.i64 c.b]), AV.d (D.int IntKind.i64 (2 : Int))] [] (AV.d (D.agg [D.str (cFail c (2 : Int)).d, D.int IntKind.i64 (cFail c (2 : Int)).i, D.int IntKind.i64 (cFail c (2 : Int)).b])) []) ∧ ((AV.tup [AV.d (D.agg [D.str (cFail c (2 : Int)).d, D.int IntKind.i64 (cFail c (2 : Int)).i, D.int IntKind.i64 (cFail c (2 : Int)).b]), AV.d (D.str [])] = AV.tup [AV.d (D.agg [D.str (cTakeC c n).d, D.int IntKind.i64 (cTakeC c n).i, D.int IntKind.i64 (cTakeC c n).b]), AV.d (D.str (cTakeS c n))]) ∧ (True))) ((FnOK Try.prog (16 : Nat) [AV.d (D.agg [D.str c.d, D.int IntKind.i64 c.i, D.int IntKind.i64 c.b])] [] (AV.d (D.int IntKind.i64 (cLeft c))) []) ∧ (condP (decide (n > cLeft c)) ((FnOK Try.prog (27 : Nat) [AV.d (D.agg [D.str c.d, D.int IntKind.i64 c.i, D.int IntKind.i64 c.b]), AV.d (D.int IntKind.i64 (3 : Int))] [] (AV.d (D.agg [D.str (cFail c (3 : Int)).d, D.int IntKind.i64 (cFail c (3 : Int)).i, D.int IntKind.i64 (cFail c (3 : Int)).b])) []) ∧ ((AV.tup [AV.d (D.agg [D.str (cFail c (3 : Int)).d, D.int IntKind.i64 (cFail c (3 : Int)).i, D.int IntKind.i64 (cFail c (3 : Int)).b]), AV.d (D.str [])] = AV.tup [AV.d (D.agg [D.str (cTakeC c n).d, D.int IntKind.i64 (cTakeC c n).i, D.int IntKind.i64 (cTakeC c n).b]), AV.d (D.str (cTakeS c n))]) ∧ (True))) (condP (c.b != (0 : Int)) ((AV.tup [AV.d (D.agg [D.str c.d, D.int IntKind.i64 c.i, D.int IntKind.i64 c.b]), AV.d (D.str [])] = AV.tup [AV.d (D.agg [D.str (cTakeC c n).d, D.int IntKind.i64 (cTakeC c n).i, D.int IntKind.i64 (cTakeC c n).b]), AV.d (D.str (cTakeS c n))]) ∧ (True)) (((0 : Int) ≤ c.i ∧ c.i ≤ IntKind.i64.wrap (c.i + n) ∧ IntKind.i64.wrap (c.i + n) ≤ (↑c.d.length : Int)) ∧ ((AV.tup [AV.d (D.agg [D.str c.d, D.int IntKind.i64 (IntKind.i64.wrap (c.i + n)), D.int IntKind.i64 c.b]), AV.d (D.str (List.drop c.i.toNat (List.take (IntKind.i64.wrap (c.i + n)).toNat c.d)))] = AV.tup [AV.d (D.agg [D.str (cTakeC c n).d, D.int IntKind.i64 (cTakeC c n).i, D.int IntKind.i64 (cTakeC c n).b]), AV.d (D.str (cTakeS c n))]) ∧ (True))))))))) (h := {G := G1}) (subs := []) (ws := []) (ρ := []) (by kernel_rfl) ?_
  repeat' (first | with_reducible exact True.intro | with_reducible refine And.intro ?_ ?_ | with_reducible refine condP_dec (fun _ => ?_) (fun _ => ?_) | with_reducible refine condP_eq (fun _ => ?_) (fun _ => ?_) | with_reducible refine condP_ne (fun _ => ?_) (fun _ => ?_) | with_reducible refine condP_not (condP_dec (fun _ => ?_) (fun _ => ?_)) | with_reducible refine condP_not (condP_eq (fun _ => ?_) (fun _ => ?_)) | with_reducible refine condP_not (condP_intro (fun _ => ?_) (fun _ => ?_)) | with_reducible refine condP_intro (fun _ => ?_) (fun _ => ?_))
  all_goals first | first | exact within26 _ | exact in28 _ | exact fail27 _ _ | rfl | exact dyes (by assumption) | exact dno (by assumption) | exact congrArg D.bool (by assumption) | exact congrArg D.bool (beq_t (by assumption)) | exact congrArg D.bool (beq_f (by assumption)) | exact congrArg D.bool (bne_t (by assumption)) | exact congrArg D.bool (bne_f (by assumption)) | exact left16 c hn | exact tk (takeF_out (inB_f (by assumption))) | exact tk (takeF_neg (inB_t (by assumption)) (by assumption)) | exact tk (takeF_cut (inB_t (by assumption)) (by assumption) (by assumption)) | exact tk (take_bad (by assumption)) | skip
  all_goals
    have he := take_end hn (by assumption) (inB_t (by assumption)) (by assumption) (by assumption)
    have hb : c.b = 0 := by assumption
    first | omega | (rw [he.1, hb]; exact he.2.2.2.2.symm)

set_option maxRecDepth 100000 in
set_option maxHeartbeats 1000000 in
theorem take12 (c : Cur) (hn : c.d.length < 70368744177664) (n : Int) : FnOK Try.prog 12 ([.d (cD c), .d (.int .i64 n)]) ([]) (tkA c n) ([]) := by
  refine fnOK_wp (p := condP (c.b != (0 : Int)) ((AV.tup [AV.d (D.agg [D.str c.d, D.int IntKind.i64 c.i, D.int IntKind.i64 c.b]), AV.d (D.str [])] = AV.tup [AV.d (D.agg [D.str (cTakeC c n).d, D.int IntKind.i64 (cTakeC c n).i, D.int IntKind.i64 (cTakeC c n).b]), AV.d (D.str (cTakeS c n))]) ∧ (True)) ((FnOK Try.prog (28 : Nat) [AV.d (D.agg [D.str c.d, D.int IntKind.i64 c.i, D.int IntKind.i64 c.b])] [] (AV.d (D.bool (inB c))) []) ∧ (condP (!inB c) ((AV.tup [AV.d (D.agg [D.str c.d, D.int IntKind.i64 c.i, D.int IntKind.i64 (8 : Int)]), AV.d (D.str [])] = AV.tup [AV.d (D.agg [D.str (cTakeC c n).d, D.int IntKind.i64 (cTakeC c n).i, D.int IntKind.i64 (cTakeC c n).b]), AV.d (D.str (cTakeS c n))]) ∧ (True)) (condP (decide (n < (0 : Int))) ((AV.tup [AV.d (D.agg [D.str c.d, D.int IntKind.i64 c.i, D.int IntKind.i64 (2 : Int)]), AV.d (D.str [])] = AV.tup [AV.d (D.agg [D.str (cTakeC c n).d, D.int IntKind.i64 (cTakeC c n).i, D.int IntKind.i64 (cTakeC c n).b]), AV.d (D.str (cTakeS c n))]) ∧ (True)) ((FnOK Try.prog (17 : Nat) [AV.d (D.agg [D.str c.d, D.int IntKind.i64 c.i, D.int IntKind.i64 c.b])] [] (AV.d (D.int IntKind.i64 (cLeft c))) []) ∧ (condP (decide (n > cLeft c)) ((AV.tup [AV.d (D.agg [D.str c.d, D.int IntKind.i64 c.i, D.int IntKind.i64 (3 : Int)]), AV.d (D.str [])] = AV.tup [AV.d (D.agg [D.str (cTakeC c n).d, D.int IntKind.i64 (cTakeC c n).i, D.int IntKind.i64 (cTakeC c n).b]), AV.d (D.str (cTakeS c n))]) ∧ (True)) (((0 : Int) ≤ c.i ∧ c.i ≤ IntKind.i64.wrap (c.i + n) ∧ IntKind.i64.wrap (c.i + n) ≤ (↑c.d.length : Int)) ∧ ((AV.tup [AV.d (D.agg [D.str c.d, D.int IntKind.i64 (IntKind.i64.wrap (c.i + n)), D.int IntKind.i64 c.b]), AV.d (D.str (List.drop c.i.toNat (List.take (IntKind.i64.wrap (c.i + n)).toNat c.d)))] = AV.tup [AV.d (D.agg [D.str (cTakeC c n).d, D.int IntKind.i64 (cTakeC c n).i, D.int IntKind.i64 (cTakeC c n).b]), AV.d (D.str (cTakeS c n))]) ∧ (True))))))))) (h := {G := G1}) (subs := []) (ws := []) (ρ := []) (by kernel_rfl) ?_
  repeat' (first | with_reducible exact True.intro | with_reducible refine And.intro ?_ ?_ | with_reducible refine condP_dec (fun _ => ?_) (fun _ => ?_) | with_reducible refine condP_eq (fun _ => ?_) (fun _ => ?_) | with_reducible refine condP_ne (fun _ => ?_) (fun _ => ?_) | with_reducible refine condP_not (condP_dec (fun _ => ?_) (fun _ => ?_)) | with_reducible refine condP_not (condP_eq (fun _ => ?_) (fun _ => ?_)) | with_reducible refine condP_not (condP_intro (fun _ => ?_) (fun _ => ?_)) | with_reducible refine condP_intro (fun _ => ?_) (fun _ => ?_))
  all_goals first | first | exact within26 _ | exact in28 _ | exact fail27 _ _ | rfl | exact dyes (by assumption) | exact dno (by assumption) | exact congrArg D.bool (by assumption) | exact congrArg D.bool (beq_t (by assumption)) | exact congrArg D.bool (beq_f (by assumption)) | exact congrArg D.bool (bne_t (by assumption)) | exact congrArg D.bool (bne_f (by assumption)) | exact left17 c hn | exact tk (take_bad (by assumption)) | exact tk (take_out (by assumption) (inB_f (by assumption))) | exact tk (take_neg (by assumption) (inB_t (by assumption)) (by assumption)) | skip
  all_goals first | (refine tk (take_cut (by assumption) (inB_t (by assumption)) (by assumption) ?_); have hl := left_yes (c := c) (by assumption) (inB_t (by assumption)); omega) | skip
  all_goals
    have he := take_end hn (by assumption) (inB_t (by assumption)) (by assumption) (by assumption)
    have hb : c.b = 0 := by assumption
    first | omega | (rw [he.1, hb]; exact he.2.2.2.2.symm)

set_option maxRecDepth 100000 in
set_option maxHeartbeats 1000000 in
theorem rest13 (c : Cur) (hn : c.d.length < 70368744177664) : FnOK Try.prog 13 ([.d (cD c)]) ([]) (tkA c (cLeft c)) ([]) := by
  refine fnOK_wp (p := (FnOK Try.prog (16 : Nat) [AV.d (D.agg [D.str c.d, D.int IntKind.i64 c.i, D.int IntKind.i64 c.b])] [] (AV.d (D.int IntKind.i64 (cLeft c))) []) ∧ ((FnOK Try.prog (11 : Nat) [AV.d (D.agg [D.str c.d, D.int IntKind.i64 c.i, D.int IntKind.i64 c.b]), AV.d (D.int IntKind.i64 (cLeft c))] [] (AV.tup [AV.d (D.agg [D.str (cTakeC c (cLeft c)).d, D.int IntKind.i64 (cTakeC c (cLeft c)).i, D.int IntKind.i64 (cTakeC c (cLeft c)).b]), AV.d (D.str (cTakeS c (cLeft c)))]) []) ∧ ((AV.tup [AV.d (D.agg [D.str (cTakeC c (cLeft c)).d, D.int IntKind.i64 (cTakeC c (cLeft c)).i, D.int IntKind.i64 (cTakeC c (cLeft c)).b]), AV.d (D.str (cTakeS c (cLeft c)))] = AV.tup [AV.d (D.agg [D.str (cTakeC c (cLeft c)).d, D.int IntKind.i64 (cTakeC c (cLeft c)).i, D.int IntKind.i64 (cTakeC c (cLeft c)).b]), AV.d (D.str (cTakeS c (cLeft c)))]) ∧ (True)))) (h := {G := G1}) (subs := []) (ws := []) (ρ := []) (by kernel_rfl) ?_
  exact ⟨left16 c hn, take11 c hn _, rfl, trivial⟩

set_option maxRecDepth 100000 in
set_option maxHeartbeats 1000000 in
theorem rest14 (c : Cur) (hn : c.d.length < 70368744177664) : FnOK Try.prog 14 ([.d (cD c)]) ([]) (tkA c (cLeft c)) ([]) := by
  refine fnOK_wp (p := (FnOK Try.prog (17 : Nat) [AV.d (D.agg [D.str c.d, D.int IntKind.i64 c.i, D.int IntKind.i64 c.b])] [] (AV.d (D.int IntKind.i64 (cLeft c))) []) ∧ ((FnOK Try.prog (12 : Nat) [AV.d (D.agg [D.str c.d, D.int IntKind.i64 c.i, D.int IntKind.i64 c.b]), AV.d (D.int IntKind.i64 (cLeft c))] [] (AV.tup [AV.d (D.agg [D.str (cTakeC c (cLeft c)).d, D.int IntKind.i64 (cTakeC c (cLeft c)).i, D.int IntKind.i64 (cTakeC c (cLeft c)).b]), AV.d (D.str (cTakeS c (cLeft c)))]) []) ∧ ((AV.tup [AV.d (D.agg [D.str (cTakeC c (cLeft c)).d, D.int IntKind.i64 (cTakeC c (cLeft c)).i, D.int IntKind.i64 (cTakeC c (cLeft c)).b]), AV.d (D.str (cTakeS c (cLeft c)))] = AV.tup [AV.d (D.agg [D.str (cTakeC c (cLeft c)).d, D.int IntKind.i64 (cTakeC c (cLeft c)).i, D.int IntKind.i64 (cTakeC c (cLeft c)).b]), AV.d (D.str (cTakeS c (cLeft c)))]) ∧ (True)))) (h := {G := G1}) (subs := []) (ws := []) (ρ := []) (by kernel_rfl) ?_
  exact ⟨left17 c hn, take12 c hn _, rfl, trivial⟩

/-! ### Numbers -/
theorem or_byte {a c : Int} (a0 : 0 ≤ a) (a1 : a < 36028797018963968) (c0 : 0 ≤ c) (c1 : c < 256) : bitsI .or .i64 (IntKind.i64.wrap (a * 256)) c = a * 256 + c := by
  obtain ⟨m, rfl⟩ := Int.eq_ofNat_of_zero_le a0
  obtain ⟨n, rfl⟩ := Int.eq_ofNat_of_zero_le c0
  have hw : IntKind.i64.wrap ((m : Int) * 256) = ((m * 256 : Nat) : Int) := by rw [IntKind.wrap_i64]; omega
  rw [hw]
  show IntKind.i64.wrap ((BitVec.ofInt 64 ((m * 256 : Nat) : Int) ||| BitVec.ofInt 64 (n : Int)).toNat : Int) = _
  have e1 : (BitVec.ofInt 64 ((m * 256 : Nat) : Int)).toNat = m <<< 8 := by rw [BitVec.toNat_ofInt, Nat.shiftLeft_eq]; omega
  have e2 : (BitVec.ofInt 64 (n : Int)).toNat = n := by rw [BitVec.toNat_ofInt]; omega
  rw [BitVec.toNat_or, e1, e2, ← Nat.shiftLeft_add_eq_or_of_lt (by omega), Nat.shiftLeft_eq, IntKind.wrap_i64]
  omega
def numA (c : Cur) (n : Int) : AV := .tup [.d (cD (cNumC c n)), .d (.int .i64 (cNumN c n))]
def cB (c : Cur) : Ob := .box [.d (.str c.d), .d (.int .i64 c.i), .d (.int .i64 c.b)]
def cZ : Ob := .box [.d (.str []), .d (.int .i64 0), .d (.int .i64 0)]
def I9 (c : Cur) (s : List UInt8) (j : Nat) : St := ⟨[(2, .ptr 1 0), (4, .ptr 2 0), (6, .d (.str s)), (7, .d (.int .i64 (cNum (s.take j)))), (28, .d (.int .i64 s.length)), (29, .d (.int .i64 j))], [(1, cB c), (2, cZ)]⟩
theorem num_succ {s : List UInt8} {j : Nat} {x : UInt8} (h : s[j]? = some x) : cNum (s.take (j + 1)) = cNum (s.take j) * 256 + (x.toNat : Int) := by
  rw [List.take_add_one, h]; exact cNum_snoc _ _
theorem num_6 {s : List UInt8} (h : s.length ≤ 7) {j : Nat} (hj : j < s.length) : 0 ≤ cNum (s.take j) ∧ cNum (s.take j) < 281474976710656 := by
  have := cNum_bd 6 (s.take j) (by simp; omega)
  simpa using this
set_option maxRecDepth 100000 in
set_option maxHeartbeats 1000000 in
theorem r9 (c : Cur) (s : List UInt8) (hs : s.length ≤ 7) (j : Nat) (x : UInt8) (hx : s[j]? = some x) : Runs Try.prog 0 (loopN Try.prog 9 0) (St.as (I9 c s j) 42) (.normal) (St.as (I9 c s (j+1)) 42) := by
  refine round_wp (p := condP (decide ((↑j : Int) < (↑s.length : Int))) (((0 : Int) ≤ (8 : Int)) ∧ (((0 : Int) ≤ (↑j : Int)) ∧ ((s[(↑j : Int).toNat]? = some x) ∧ ((AV.ptr (1 : Nat) (0 : Nat) = AV.ptr (1 : Nat) (0 : Nat)) ∧ ((AV.ptr (2 : Nat) (0 : Nat) = AV.ptr (2 : Nat) (0 : Nat)) ∧ ((AV.d (D.str s) = AV.d (D.str s)) ∧ ((AV.d (D.int IntKind.i64 (bitsI BinOp.or IntKind.i64 (IntKind.i64.wrap (cNum (List.take j s) * (256 : Int))) (IntKind.i64.wrap (↑x.toNat : Int)))) = AV.d (D.int IntKind.i64 (cNum (List.take (j + (1 : Nat)) s)))) ∧ ((AV.d (D.int IntKind.i64 (↑s.length : Int)) = AV.d (D.int IntKind.i64 (↑s.length : Int))) ∧ ((AV.d (D.int IntKind.i64 (IntKind.i64.wrap ((↑j : Int) + (1 : Int)))) = AV.d (D.int IntKind.i64 (↑(j + (1 : Nat)) : Int))) ∧ ((Ob.box [AV.d (D.str c.d), AV.d (D.int IntKind.i64 c.i), AV.d (D.int IntKind.i64 c.b)] = Ob.box [AV.d (D.str c.d), AV.d (D.int IntKind.i64 c.i), AV.d (D.int IntKind.i64 c.b)]) ∧ ((Ob.box [AV.d (D.str []), AV.d (D.int IntKind.i64 (0 : Int)), AV.d (D.int IntKind.i64 (0 : Int))] = Ob.box [AV.d (D.str []), AV.d (D.int IntKind.i64 (0 : Int)), AV.d (D.int IntKind.i64 (0 : Int))]) ∧ (True)))))))))))) (False)) (h := {els := [(34, .byte x)]}) (subs := []) (ws := []) (ρ := []) (by kernel_rfl) ?_
  have hj : j < s.length := (List.getElem?_eq_some_iff.1 hx).1
  have hv : IntKind.i64.wrap ((j : Int) + 1) = ((j + 1 : Nat) : Int) := by rw [IntKind.wrap_i64]; omega
  have hb := num_6 hs hj
  have hc := x.toNat_lt
  have hw : IntKind.i64.wrap (x.toNat : Int) = (x.toNat : Int) := by rw [IntKind.wrap_i64]; omega
  have ho := or_byte hb.1 (by omega) (c := (x.toNat : Int)) (by omega) (by omega)
  rw [hv, hw, num_succ hx]
  repeat' (first | with_reducible exact True.intro | with_reducible refine And.intro ?_ ?_ | with_reducible refine condP_dec (fun _ => ?_) (fun _ => ?_) | with_reducible refine condP_eq (fun _ => ?_) (fun _ => ?_) | with_reducible refine condP_ne (fun _ => ?_) (fun _ => ?_) | with_reducible refine condP_not (condP_dec (fun _ => ?_) (fun _ => ?_)) | with_reducible refine condP_not (condP_eq (fun _ => ?_) (fun _ => ?_)) | with_reducible refine condP_not (condP_intro (fun _ => ?_) (fun _ => ?_)) | with_reducible refine condP_intro (fun _ => ?_) (fun _ => ?_))
  all_goals first | exact hx | rfl | omega | (exfalso; omega) | exact dint ho | skip

set_option maxRecDepth 100000 in
set_option maxHeartbeats 1000000 in
theorem q9 (c : Cur) (s : List UInt8) : Runs Try.prog 0 (loopN Try.prog 9 0) (St.as (I9 c s s.length) 42) (.exit 0) (St.as (I9 c s s.length) 42) := by
  refine round_wp (p := condP (decide ((↑s.length : Int) < (↑s.length : Int))) (False) ((AV.ptr (1 : Nat) (0 : Nat) = AV.ptr (1 : Nat) (0 : Nat)) ∧ ((AV.ptr (2 : Nat) (0 : Nat) = AV.ptr (2 : Nat) (0 : Nat)) ∧ ((AV.d (D.str s) = AV.d (D.str s)) ∧ ((AV.d (D.int IntKind.i64 (cNum (List.take s.length s))) = AV.d (D.int IntKind.i64 (cNum (List.take s.length s)))) ∧ ((AV.d (D.int IntKind.i64 (↑s.length : Int)) = AV.d (D.int IntKind.i64 (↑s.length : Int))) ∧ ((AV.d (D.int IntKind.i64 (↑s.length : Int)) = AV.d (D.int IntKind.i64 (↑s.length : Int))) ∧ ((Ob.box [AV.d (D.str c.d), AV.d (D.int IntKind.i64 c.i), AV.d (D.int IntKind.i64 c.b)] = Ob.box [AV.d (D.str c.d), AV.d (D.int IntKind.i64 c.i), AV.d (D.int IntKind.i64 c.b)]) ∧ ((Ob.box [AV.d (D.str []), AV.d (D.int IntKind.i64 (0 : Int)), AV.d (D.int IntKind.i64 (0 : Int))] = Ob.box [AV.d (D.str []), AV.d (D.int IntKind.i64 (0 : Int)), AV.d (D.int IntKind.i64 (0 : Int))]) ∧ (True)))))))))) (h := {}) (subs := []) (ws := []) (ρ := []) (by kernel_rfl) ?_
  repeat' (first | with_reducible exact True.intro | with_reducible refine And.intro ?_ ?_ | with_reducible refine condP_dec (fun _ => ?_) (fun _ => ?_) | with_reducible refine condP_eq (fun _ => ?_) (fun _ => ?_) | with_reducible refine condP_ne (fun _ => ?_) (fun _ => ?_) | with_reducible refine condP_not (condP_dec (fun _ => ?_) (fun _ => ?_)) | with_reducible refine condP_not (condP_eq (fun _ => ?_) (fun _ => ?_)) | with_reducible refine condP_not (condP_intro (fun _ => ?_) (fun _ => ?_)) | with_reducible refine condP_intro (fun _ => ?_) (fun _ => ?_))
  all_goals first | rfl | omega

theorem l9 (c : Cur) (s : List UInt8) (hs : s.length ≤ 7) : Loops Try.prog 0 (loopN Try.prog 9 0) ((I9 c s 0).as 42) (.exit 0) ((I9 c s s.length).as 42) :=
  loops_n (I := fun j => (I9 c s j).as 42) (by simp) s.length 0 (by omega) (fun j _ hj => r9 c s hs j s[j] (by simp [hj])) (q9 c s)
theorem nm {c y : Cur} {n m : Int} (h : cNumC c n = y ∧ cNumN c n = m) : AV.tup [AV.d (D.agg [D.str y.d, D.int .i64 y.i, D.int .i64 y.b]), AV.d (D.int .i64 m)] = numA c n := by unfold numA; rw [h.1, h.2]; rfl
theorem numF {c : Cur} {n : Int} (g : cIn c) (k : n < 1 ∨ 7 < n) : cNumC c n = cFail c 2 ∧ cNumN c n = 0 := by
  by_cases h : c.b = 0
  · rw [fail_is h]; exact odd_yes ⟨h, g, k⟩
  · rw [fail_bad h]
    have := odd_no (c := c) (n := n) (fun o => h o.1)
    rw [this.1, this.2, (take_bad h).1, (take_bad h).2]; exact ⟨rfl, rfl⟩
theorem numO {c y : Cur} {n : Int} {s : List UInt8} (hy : cTakeC c n = y) (hs : cTakeS c n = s) (h : ¬ cIn c ∨ (1 ≤ n ∧ n ≤ 7) ∨ c.b ≠ 0) : s.length ≤ 7 ∧ AV.tup [AV.d (D.agg [D.str y.d, D.int .i64 y.i, D.int .i64 y.b]), AV.d (D.int .i64 (cNum s))] = numA c n := by
  have ho : ¬ cOdd c n := by
    rintro ⟨h1, h2, h3⟩
    rcases h with h | h | h
    · exact h h2
    · omega
    · exact h h1
  have h1 := odd_no ho
  rw [hy, hs] at h1
  exact ⟨hs ▸ takeS_len ho, nm h1⟩
def I10 (y : Cur) (s : List UInt8) (j : Nat) : St := ⟨[(4, .ptr 2 0), (6, .ptr 1 0), (7, .d (.str s)), (8, .d (.int .i64 (cNum (s.take j)))), (9, .d (.int .i64 j))], [(1, cB y), (2, cZ)]⟩
set_option maxRecDepth 100000 in
set_option maxHeartbeats 1000000 in
theorem r10 (c : Cur) (s : List UInt8) (hs : s.length ≤ 7) (j : Nat) (x : UInt8) (hx : s[j]? = some x) : Runs Try.prog 0 (loopN Try.prog 10 0) (St.as (I10 c s j) 48) (.normal) (St.as (I10 c s (j+1)) 48) := by
  refine round_wp (p := condP (decide ((↑j : Int) < (↑s.length : Int))) (((0 : Int) ≤ (↑j : Int)) ∧ ((s[(↑j : Int).toNat]? = some x) ∧ ((AV.ptr (2 : Nat) (0 : Nat) = AV.ptr (2 : Nat) (0 : Nat)) ∧ ((AV.ptr (1 : Nat) (0 : Nat) = AV.ptr (1 : Nat) (0 : Nat)) ∧ ((AV.d (D.str s) = AV.d (D.str s)) ∧ ((AV.d (D.int IntKind.i64 (IntKind.i64.wrap (IntKind.i64.wrap ((256 : Int) * cNum (List.take j s)) + IntKind.i64.wrap (↑x.toNat : Int)))) = AV.d (D.int IntKind.i64 (cNum (List.take (j + (1 : Nat)) s)))) ∧ ((AV.d (D.int IntKind.i64 (IntKind.i64.wrap ((↑j : Int) + (1 : Int)))) = AV.d (D.int IntKind.i64 (↑(j + (1 : Nat)) : Int))) ∧ ((Ob.box [AV.d (D.str c.d), AV.d (D.int IntKind.i64 c.i), AV.d (D.int IntKind.i64 c.b)] = Ob.box [AV.d (D.str c.d), AV.d (D.int IntKind.i64 c.i), AV.d (D.int IntKind.i64 c.b)]) ∧ ((Ob.box [AV.d (D.str []), AV.d (D.int IntKind.i64 (0 : Int)), AV.d (D.int IntKind.i64 (0 : Int))] = Ob.box [AV.d (D.str []), AV.d (D.int IntKind.i64 (0 : Int)), AV.d (D.int IntKind.i64 (0 : Int))]) ∧ (True)))))))))) (False)) (h := {els := [(41, .byte x)]}) (subs := []) (ws := []) (ρ := []) (by kernel_rfl) ?_
  have hj : j < s.length := (List.getElem?_eq_some_iff.1 hx).1
  have hv : IntKind.i64.wrap ((j : Int) + 1) = ((j + 1 : Nat) : Int) := by rw [IntKind.wrap_i64]; omega
  have hb := num_6 hs hj
  have hc := x.toNat_lt
  have hw : IntKind.i64.wrap (IntKind.i64.wrap (256 * cNum (s.take j)) + IntKind.i64.wrap (x.toNat : Int)) = cNum (s.take j) * 256 + (x.toNat : Int) := by simp only [IntKind.wrap_i64]; omega
  rw [hv, hw, num_succ hx]
  repeat' (first | with_reducible exact True.intro | with_reducible refine And.intro ?_ ?_ | with_reducible refine condP_dec (fun _ => ?_) (fun _ => ?_) | with_reducible refine condP_eq (fun _ => ?_) (fun _ => ?_) | with_reducible refine condP_ne (fun _ => ?_) (fun _ => ?_) | with_reducible refine condP_not (condP_dec (fun _ => ?_) (fun _ => ?_)) | with_reducible refine condP_not (condP_eq (fun _ => ?_) (fun _ => ?_)) | with_reducible refine condP_not (condP_intro (fun _ => ?_) (fun _ => ?_)) | with_reducible refine condP_intro (fun _ => ?_) (fun _ => ?_))
  all_goals first | exact hx | rfl | omega | (exfalso; omega)

set_option maxRecDepth 100000 in
set_option maxHeartbeats 1000000 in
theorem q10 (c : Cur) (s : List UInt8) : Runs Try.prog 0 (loopN Try.prog 10 0) (St.as (I10 c s s.length) 48) (.exit 0) (St.as (I10 c s s.length) 48) := by
  refine round_wp (p := condP (decide ((↑s.length : Int) < (↑s.length : Int))) (False) ((AV.ptr (2 : Nat) (0 : Nat) = AV.ptr (2 : Nat) (0 : Nat)) ∧ ((AV.ptr (1 : Nat) (0 : Nat) = AV.ptr (1 : Nat) (0 : Nat)) ∧ ((AV.d (D.str s) = AV.d (D.str s)) ∧ ((AV.d (D.int IntKind.i64 (cNum (List.take s.length s))) = AV.d (D.int IntKind.i64 (cNum (List.take s.length s)))) ∧ ((AV.d (D.int IntKind.i64 (↑s.length : Int)) = AV.d (D.int IntKind.i64 (↑s.length : Int))) ∧ ((Ob.box [AV.d (D.str c.d), AV.d (D.int IntKind.i64 c.i), AV.d (D.int IntKind.i64 c.b)] = Ob.box [AV.d (D.str c.d), AV.d (D.int IntKind.i64 c.i), AV.d (D.int IntKind.i64 c.b)]) ∧ ((Ob.box [AV.d (D.str []), AV.d (D.int IntKind.i64 (0 : Int)), AV.d (D.int IntKind.i64 (0 : Int))] = Ob.box [AV.d (D.str []), AV.d (D.int IntKind.i64 (0 : Int)), AV.d (D.int IntKind.i64 (0 : Int))]) ∧ (True))))))))) (h := {}) (subs := []) (ws := []) (ρ := []) (by kernel_rfl) ?_
  repeat' (first | with_reducible exact True.intro | with_reducible refine And.intro ?_ ?_ | with_reducible refine condP_dec (fun _ => ?_) (fun _ => ?_) | with_reducible refine condP_eq (fun _ => ?_) (fun _ => ?_) | with_reducible refine condP_ne (fun _ => ?_) (fun _ => ?_) | with_reducible refine condP_not (condP_dec (fun _ => ?_) (fun _ => ?_)) | with_reducible refine condP_not (condP_eq (fun _ => ?_) (fun _ => ?_)) | with_reducible refine condP_not (condP_intro (fun _ => ?_) (fun _ => ?_)) | with_reducible refine condP_intro (fun _ => ?_) (fun _ => ?_))
  all_goals first | rfl | omega

theorem l10 (c : Cur) (s : List UInt8) (hs : s.length ≤ 7) : Loops Try.prog 0 (loopN Try.prog 10 0) ((I10 c s 0).as 48) (.exit 0) ((I10 c s s.length).as 48) :=
  loops_n (I := fun j => (I10 c s j).as 48) (by simp) s.length 0 (by omega) (fun j _ hj => r10 c s hs j s[j] (by simp [hj])) (q10 c s)
set_option maxRecDepth 100000 in
set_option maxHeartbeats 1000000 in
theorem number9 (c : Cur) (hn : c.d.length < 70368744177664) (n : Int) (y : Cur) (s : List UInt8) (hy : cTakeC c n = y) (hs : cTakeS c n = s) : FnOK Try.prog 9 ([.d (cD c), .d (.int .i64 n)]) ([]) (numA c n) ([]) := by
  refine fnOK_wp (p := condP (inB c) (condP (decide (n < (1 : Int))) ((FnOK Try.prog (26 : Nat) [AV.d (D.agg [D.str c.d, D.int IntKind.i64 c.i, D.int IntKind.i64 c.b])] [] (AV.d (D.bool (inB c))) []) ∧ ((D.bool (inB c) = D.bool true) ∧ ((D.bool (decide (n < (1 : Int))) = D.bool true) ∧ ((FnOK Try.prog (27 : Nat) [AV.d (D.agg [D.str c.d, D.int IntKind.i64 c.i, D.int IntKind.i64 c.b]), AV.d (D.int IntKind.i64 (2 : Int))] [] (AV.d (D.agg [D.str (cFail c (2 : Int)).d, D.int IntKind.i64 (cFail c (2 : Int)).i, D.int IntKind.i64 (cFail c (2 : Int)).b])) []) ∧ ((AV.tup [AV.d (D.agg [D.str (cFail c (2 : Int)).d, D.int IntKind.i64 (cFail c (2 : Int)).i, D.int IntKind.i64 (cFail c (2 : Int)).b]), AV.d (D.int IntKind.i64 (0 : Int))] = AV.tup [AV.d (D.agg [D.str (cNumC c n).d, D.int IntKind.i64 (cNumC c n).i, D.int IntKind.i64 (cNumC c n).b]), AV.d (D.int IntKind.i64 (cNumN c n))]) ∧ (True)))))) ((FnOK Try.prog (26 : Nat) [AV.d (D.agg [D.str c.d, D.int IntKind.i64 c.i, D.int IntKind.i64 c.b])] [] (AV.d (D.bool (inB c))) []) ∧ ((D.bool (inB c) = D.bool true) ∧ ((D.bool (decide (n < (1 : Int))) = D.bool false) ∧ (condP (decide (n > (7 : Int))) ((FnOK Try.prog (27 : Nat) [AV.d (D.agg [D.str c.d, D.int IntKind.i64 c.i, D.int IntKind.i64 c.b]), AV.d (D.int IntKind.i64 (2 : Int))] [] (AV.d (D.agg [D.str (cFail c (2 : Int)).d, D.int IntKind.i64 (cFail c (2 : Int)).i, D.int IntKind.i64 (cFail c (2 : Int)).b])) []) ∧ ((AV.tup [AV.d (D.agg [D.str (cFail c (2 : Int)).d, D.int IntKind.i64 (cFail c (2 : Int)).i, D.int IntKind.i64 (cFail c (2 : Int)).b]), AV.d (D.int IntKind.i64 (0 : Int))] = AV.tup [AV.d (D.agg [D.str (cNumC c n).d, D.int IntKind.i64 (cNumC c n).i, D.int IntKind.i64 (cNumC c n).b]), AV.d (D.int IntKind.i64 (cNumN c n))]) ∧ (True))) ((FnOK Try.prog (11 : Nat) [AV.d (D.agg [D.str c.d, D.int IntKind.i64 c.i, D.int IntKind.i64 c.b]), AV.d (D.int IntKind.i64 n)] [] (AV.tup [AV.d (D.agg [D.str y.d, D.int IntKind.i64 y.i, D.int IntKind.i64 y.b]), AV.d (D.str s)]) []) ∧ ((AV.ptr (1016 : Nat) (0 : Nat) = AV.ptr (1016 : Nat) (0 : Nat)) ∧ ((AV.ptr (1032 : Nat) (0 : Nat) = AV.ptr (1032 : Nat) (0 : Nat)) ∧ ((AV.d (D.str s) = AV.d (D.str s)) ∧ ((AV.d (D.int IntKind.i64 (0 : Int)) = AV.d (D.int IntKind.i64 (cNum (List.take (0 : Nat) s)))) ∧ ((AV.d (D.int IntKind.i64 (↑s.length : Int)) = AV.d (D.int IntKind.i64 (↑s.length : Int))) ∧ ((AV.d (D.int IntKind.i64 (0 : Int)) = AV.d (D.int IntKind.i64 (0 : Int))) ∧ ((Ob.box [AV.d (D.str y.d), AV.d (D.int IntKind.i64 y.i), AV.d (D.int IntKind.i64 y.b)] = Ob.box [AV.d (D.str y.d), AV.d (D.int IntKind.i64 y.i), AV.d (D.int IntKind.i64 y.b)]) ∧ ((Ob.box [AV.d (D.str []), AV.d (D.int IntKind.i64 (0 : Int)), AV.d (D.int IntKind.i64 (0 : Int))] = Ob.box [AV.d (D.str []), AV.d (D.int IntKind.i64 (0 : Int)), AV.d (D.int IntKind.i64 (0 : Int))]) ∧ ((LoopsS Try.prog (0 : Nat) (loopN Try.prog (9 : Nat) (0 : Nat)) (I9 y s (0 : Nat)) (Exit.exit (0 : Nat)) (I9 y s s.length) (42 : Nat)) ∧ ((AV.tup [AV.d (D.agg [D.str y.d, D.int IntKind.i64 y.i, D.int IntKind.i64 y.b]), AV.d (D.int IntKind.i64 (cNum (List.take s.length s)))] = AV.tup [AV.d (D.agg [D.str (cNumC c n).d, D.int IntKind.i64 (cNumC c n).i, D.int IntKind.i64 (cNumC c n).b]), AV.d (D.int IntKind.i64 (cNumN c n))]) ∧ (True))))))))))))))))) ((FnOK Try.prog (26 : Nat) [AV.d (D.agg [D.str c.d, D.int IntKind.i64 c.i, D.int IntKind.i64 c.b])] [] (AV.d (D.bool (inB c))) []) ∧ ((D.bool (inB c) = D.bool false) ∧ ((FnOK Try.prog (11 : Nat) [AV.d (D.agg [D.str c.d, D.int IntKind.i64 c.i, D.int IntKind.i64 c.b]), AV.d (D.int IntKind.i64 n)] [] (AV.tup [AV.d (D.agg [D.str y.d, D.int IntKind.i64 y.i, D.int IntKind.i64 y.b]), AV.d (D.str s)]) []) ∧ ((AV.ptr (1016 : Nat) (0 : Nat) = AV.ptr (1016 : Nat) (0 : Nat)) ∧ ((AV.ptr (1032 : Nat) (0 : Nat) = AV.ptr (1032 : Nat) (0 : Nat)) ∧ ((AV.d (D.str s) = AV.d (D.str s)) ∧ ((AV.d (D.int IntKind.i64 (0 : Int)) = AV.d (D.int IntKind.i64 (cNum (List.take (0 : Nat) s)))) ∧ ((AV.d (D.int IntKind.i64 (↑s.length : Int)) = AV.d (D.int IntKind.i64 (↑s.length : Int))) ∧ ((AV.d (D.int IntKind.i64 (0 : Int)) = AV.d (D.int IntKind.i64 (0 : Int))) ∧ ((Ob.box [AV.d (D.str y.d), AV.d (D.int IntKind.i64 y.i), AV.d (D.int IntKind.i64 y.b)] = Ob.box [AV.d (D.str y.d), AV.d (D.int IntKind.i64 y.i), AV.d (D.int IntKind.i64 y.b)]) ∧ ((Ob.box [AV.d (D.str []), AV.d (D.int IntKind.i64 (0 : Int)), AV.d (D.int IntKind.i64 (0 : Int))] = Ob.box [AV.d (D.str []), AV.d (D.int IntKind.i64 (0 : Int)), AV.d (D.int IntKind.i64 (0 : Int))]) ∧ ((LoopsS Try.prog (0 : Nat) (loopN Try.prog (9 : Nat) (0 : Nat)) (I9 y s (0 : Nat)) (Exit.exit (0 : Nat)) (I9 y s s.length) (42 : Nat)) ∧ ((AV.tup [AV.d (D.agg [D.str y.d, D.int IntKind.i64 y.i, D.int IntKind.i64 y.b]), AV.d (D.int IntKind.i64 (cNum (List.take s.length s)))] = AV.tup [AV.d (D.agg [D.str (cNumC c n).d, D.int IntKind.i64 (cNumC c n).i, D.int IntKind.i64 (cNumC c n).b]), AV.d (D.int IntKind.i64 (cNumN c n))]) ∧ (True))))))))))))))) (h := {G := G1, H := [(3, [(2, .call [] (.tup [.d (cD y), .d (.str s)]) [])])]}) (subs := [⟨[], [], I9 y s 0, .exit 0, I9 y s s.length⟩]) (ws := []) (ρ := []) (by kernel_rfl) ?_
  have ht := take11 c hn n
  have ht2 := take12 c hn n
  unfold tkA at ht ht2
  rw [hy, hs] at ht ht2
  rw [List.take_length]
  repeat' (first | with_reducible exact True.intro | with_reducible refine And.intro ?_ ?_ | with_reducible refine condP_dec (fun _ => ?_) (fun _ => ?_) | with_reducible refine condP_eq (fun _ => ?_) (fun _ => ?_) | with_reducible refine condP_ne (fun _ => ?_) (fun _ => ?_) | with_reducible refine condP_not (condP_dec (fun _ => ?_) (fun _ => ?_)) | with_reducible refine condP_not (condP_eq (fun _ => ?_) (fun _ => ?_)) | with_reducible refine condP_not (condP_intro (fun _ => ?_) (fun _ => ?_)) | with_reducible refine condP_intro (fun _ => ?_) (fun _ => ?_))
  all_goals first | first | exact within26 _ | exact in28 _ | exact fail27 _ _ | rfl | exact dyes (by assumption) | exact dno (by assumption) | exact congrArg D.bool (by assumption) | exact congrArg D.bool (beq_t (by assumption)) | exact congrArg D.bool (beq_f (by assumption)) | exact congrArg D.bool (bne_t (by assumption)) | exact congrArg D.bool (bne_f (by assumption)) | exact ht | exact ht2 | exact nm (numF (inB_t (by assumption)) (by omega)) | exact nm (odd_yes ⟨by assumption, inB_t (by assumption), by omega⟩) | skip
  all_goals first | exact (numO hy hs (.inl (inB_f (by assumption)))).2 | exact (numO hy hs (.inr (.inl ⟨by omega, by omega⟩))).2 | exact (numO hy hs (.inr (.inr (by assumption)))).2 | exact l9 y s (numO hy hs (.inl (inB_f (by assumption)))).1 | exact l9 y s (numO hy hs (.inr (.inl ⟨by omega, by omega⟩))).1 | exact l10 y s (numO hy hs (.inl (inB_f (by assumption)))).1 | exact l10 y s (numO hy hs (.inr (.inl ⟨by omega, by omega⟩))).1 | exact l10 y s (numO hy hs (.inr (.inr (by assumption)))).1 | (refine congrArg D.bool ?_; simp [*]; done)

set_option maxRecDepth 100000 in
set_option maxHeartbeats 1000000 in
theorem number10 (c : Cur) (hn : c.d.length < 70368744177664) (n : Int) (y : Cur) (s : List UInt8) (hy : cTakeC c n = y) (hs : cTakeS c n = s) : FnOK Try.prog 10 ([.d (cD c), .d (.int .i64 n)]) ([]) (numA c n) ([]) := by
  refine fnOK_wp (p := condP (c.b == (0 : Int)) (condP (inB c) (condP (decide (n < (1 : Int))) ((D.bool (c.b == (0 : Int)) = D.bool true) ∧ ((FnOK Try.prog (28 : Nat) [AV.d (D.agg [D.str c.d, D.int IntKind.i64 c.i, D.int IntKind.i64 c.b])] [] (AV.d (D.bool (inB c))) []) ∧ ((D.bool (inB c) = D.bool true) ∧ ((D.bool (decide (n < (1 : Int))) = D.bool true) ∧ ((AV.tup [AV.d (D.agg [D.str c.d, D.int IntKind.i64 c.i, D.int IntKind.i64 (2 : Int)]), AV.d (D.int IntKind.i64 (0 : Int))] = AV.tup [AV.d (D.agg [D.str (cNumC c n).d, D.int IntKind.i64 (cNumC c n).i, D.int IntKind.i64 (cNumC c n).b]), AV.d (D.int IntKind.i64 (cNumN c n))]) ∧ (True)))))) ((D.bool (c.b == (0 : Int)) = D.bool true) ∧ ((FnOK Try.prog (28 : Nat) [AV.d (D.agg [D.str c.d, D.int IntKind.i64 c.i, D.int IntKind.i64 c.b])] [] (AV.d (D.bool (inB c))) []) ∧ ((D.bool (inB c) = D.bool true) ∧ ((D.bool (decide (n < (1 : Int))) = D.bool false) ∧ (condP (decide (n > (7 : Int))) ((AV.tup [AV.d (D.agg [D.str c.d, D.int IntKind.i64 c.i, D.int IntKind.i64 (2 : Int)]), AV.d (D.int IntKind.i64 (0 : Int))] = AV.tup [AV.d (D.agg [D.str (cNumC c n).d, D.int IntKind.i64 (cNumC c n).i, D.int IntKind.i64 (cNumC c n).b]), AV.d (D.int IntKind.i64 (cNumN c n))]) ∧ (True)) ((FnOK Try.prog (12 : Nat) [AV.d (D.agg [D.str c.d, D.int IntKind.i64 c.i, D.int IntKind.i64 c.b]), AV.d (D.int IntKind.i64 n)] [] (AV.tup [AV.d (D.agg [D.str y.d, D.int IntKind.i64 y.i, D.int IntKind.i64 y.b]), AV.d (D.str s)]) []) ∧ ((AV.ptr (1032 : Nat) (0 : Nat) = AV.ptr (1032 : Nat) (0 : Nat)) ∧ ((AV.ptr (1048 : Nat) (0 : Nat) = AV.ptr (1048 : Nat) (0 : Nat)) ∧ ((AV.d (D.str s) = AV.d (D.str s)) ∧ ((AV.d (D.int IntKind.i64 (0 : Int)) = AV.d (D.int IntKind.i64 (cNum (List.take (0 : Nat) s)))) ∧ ((AV.d (D.int IntKind.i64 (0 : Int)) = AV.d (D.int IntKind.i64 (0 : Int))) ∧ ((Ob.box [AV.d (D.str y.d), AV.d (D.int IntKind.i64 y.i), AV.d (D.int IntKind.i64 y.b)] = Ob.box [AV.d (D.str y.d), AV.d (D.int IntKind.i64 y.i), AV.d (D.int IntKind.i64 y.b)]) ∧ ((Ob.box [AV.d (D.str []), AV.d (D.int IntKind.i64 (0 : Int)), AV.d (D.int IntKind.i64 (0 : Int))] = Ob.box [AV.d (D.str []), AV.d (D.int IntKind.i64 (0 : Int)), AV.d (D.int IntKind.i64 (0 : Int))]) ∧ ((LoopsS Try.prog (0 : Nat) (loopN Try.prog (10 : Nat) (0 : Nat)) (I10 y s (0 : Nat)) (Exit.exit (0 : Nat)) (I10 y s s.length) (48 : Nat)) ∧ ((AV.tup [AV.d (D.agg [D.str y.d, D.int IntKind.i64 y.i, D.int IntKind.i64 y.b]), AV.d (D.int IntKind.i64 (cNum (List.take s.length s)))] = AV.tup [AV.d (D.agg [D.str (cNumC c n).d, D.int IntKind.i64 (cNumC c n).i, D.int IntKind.i64 (cNumC c n).b]), AV.d (D.int IntKind.i64 (cNumN c n))]) ∧ (True))))))))))))))))) ((D.bool (c.b == (0 : Int)) = D.bool true) ∧ ((FnOK Try.prog (28 : Nat) [AV.d (D.agg [D.str c.d, D.int IntKind.i64 c.i, D.int IntKind.i64 c.b])] [] (AV.d (D.bool (inB c))) []) ∧ ((D.bool (inB c) = D.bool false) ∧ ((FnOK Try.prog (12 : Nat) [AV.d (D.agg [D.str c.d, D.int IntKind.i64 c.i, D.int IntKind.i64 c.b]), AV.d (D.int IntKind.i64 n)] [] (AV.tup [AV.d (D.agg [D.str y.d, D.int IntKind.i64 y.i, D.int IntKind.i64 y.b]), AV.d (D.str s)]) []) ∧ ((AV.ptr (1032 : Nat) (0 : Nat) = AV.ptr (1032 : Nat) (0 : Nat)) ∧ ((AV.ptr (1048 : Nat) (0 : Nat) = AV.ptr (1048 : Nat) (0 : Nat)) ∧ ((AV.d (D.str s) = AV.d (D.str s)) ∧ ((AV.d (D.int IntKind.i64 (0 : Int)) = AV.d (D.int IntKind.i64 (cNum (List.take (0 : Nat) s)))) ∧ ((AV.d (D.int IntKind.i64 (0 : Int)) = AV.d (D.int IntKind.i64 (0 : Int))) ∧ ((Ob.box [AV.d (D.str y.d), AV.d (D.int IntKind.i64 y.i), AV.d (D.int IntKind.i64 y.b)] = Ob.box [AV.d (D.str y.d), AV.d (D.int IntKind.i64 y.i), AV.d (D.int IntKind.i64 y.b)]) ∧ ((Ob.box [AV.d (D.str []), AV.d (D.int IntKind.i64 (0 : Int)), AV.d (D.int IntKind.i64 (0 : Int))] = Ob.box [AV.d (D.str []), AV.d (D.int IntKind.i64 (0 : Int)), AV.d (D.int IntKind.i64 (0 : Int))]) ∧ ((LoopsS Try.prog (0 : Nat) (loopN Try.prog (10 : Nat) (0 : Nat)) (I10 y s (0 : Nat)) (Exit.exit (0 : Nat)) (I10 y s s.length) (48 : Nat)) ∧ ((AV.tup [AV.d (D.agg [D.str y.d, D.int IntKind.i64 y.i, D.int IntKind.i64 y.b]), AV.d (D.int IntKind.i64 (cNum (List.take s.length s)))] = AV.tup [AV.d (D.agg [D.str (cNumC c n).d, D.int IntKind.i64 (cNumC c n).i, D.int IntKind.i64 (cNumC c n).b]), AV.d (D.int IntKind.i64 (cNumN c n))]) ∧ (True))))))))))))))) ((D.bool (c.b == (0 : Int)) = D.bool false) ∧ ((D.bool false = D.bool false) ∧ ((FnOK Try.prog (12 : Nat) [AV.d (D.agg [D.str c.d, D.int IntKind.i64 c.i, D.int IntKind.i64 c.b]), AV.d (D.int IntKind.i64 n)] [] (AV.tup [AV.d (D.agg [D.str y.d, D.int IntKind.i64 y.i, D.int IntKind.i64 y.b]), AV.d (D.str s)]) []) ∧ ((AV.ptr (1032 : Nat) (0 : Nat) = AV.ptr (1032 : Nat) (0 : Nat)) ∧ ((AV.ptr (1048 : Nat) (0 : Nat) = AV.ptr (1048 : Nat) (0 : Nat)) ∧ ((AV.d (D.str s) = AV.d (D.str s)) ∧ ((AV.d (D.int IntKind.i64 (0 : Int)) = AV.d (D.int IntKind.i64 (cNum (List.take (0 : Nat) s)))) ∧ ((AV.d (D.int IntKind.i64 (0 : Int)) = AV.d (D.int IntKind.i64 (0 : Int))) ∧ ((Ob.box [AV.d (D.str y.d), AV.d (D.int IntKind.i64 y.i), AV.d (D.int IntKind.i64 y.b)] = Ob.box [AV.d (D.str y.d), AV.d (D.int IntKind.i64 y.i), AV.d (D.int IntKind.i64 y.b)]) ∧ ((Ob.box [AV.d (D.str []), AV.d (D.int IntKind.i64 (0 : Int)), AV.d (D.int IntKind.i64 (0 : Int))] = Ob.box [AV.d (D.str []), AV.d (D.int IntKind.i64 (0 : Int)), AV.d (D.int IntKind.i64 (0 : Int))]) ∧ ((LoopsS Try.prog (0 : Nat) (loopN Try.prog (10 : Nat) (0 : Nat)) (I10 y s (0 : Nat)) (Exit.exit (0 : Nat)) (I10 y s s.length) (48 : Nat)) ∧ ((AV.tup [AV.d (D.agg [D.str y.d, D.int IntKind.i64 y.i, D.int IntKind.i64 y.b]), AV.d (D.int IntKind.i64 (cNum (List.take s.length s)))] = AV.tup [AV.d (D.agg [D.str (cNumC c n).d, D.int IntKind.i64 (cNumC c n).i, D.int IntKind.i64 (cNumC c n).b]), AV.d (D.int IntKind.i64 (cNumN c n))]) ∧ (True)))))))))))))) (h := {G := G1, H := [(4, [(2, .call [] (.tup [.d (cD y), .d (.str s)]) [])])]}) (subs := [⟨[], [], I10 y s 0, .exit 0, I10 y s s.length⟩]) (ws := []) (ρ := []) (by kernel_rfl) ?_
  have ht := take11 c hn n
  have ht2 := take12 c hn n
  unfold tkA at ht ht2
  rw [hy, hs] at ht ht2
  rw [List.take_length]
  repeat' (first | with_reducible exact True.intro | with_reducible refine And.intro ?_ ?_ | with_reducible refine condP_dec (fun _ => ?_) (fun _ => ?_) | with_reducible refine condP_eq (fun _ => ?_) (fun _ => ?_) | with_reducible refine condP_ne (fun _ => ?_) (fun _ => ?_) | with_reducible refine condP_not (condP_dec (fun _ => ?_) (fun _ => ?_)) | with_reducible refine condP_not (condP_eq (fun _ => ?_) (fun _ => ?_)) | with_reducible refine condP_not (condP_intro (fun _ => ?_) (fun _ => ?_)) | with_reducible refine condP_intro (fun _ => ?_) (fun _ => ?_))
  all_goals first | first | exact within26 _ | exact in28 _ | exact fail27 _ _ | rfl | exact dyes (by assumption) | exact dno (by assumption) | exact congrArg D.bool (by assumption) | exact congrArg D.bool (beq_t (by assumption)) | exact congrArg D.bool (beq_f (by assumption)) | exact congrArg D.bool (bne_t (by assumption)) | exact congrArg D.bool (bne_f (by assumption)) | exact ht | exact ht2 | exact nm (numF (inB_t (by assumption)) (by omega)) | exact nm (odd_yes ⟨by assumption, inB_t (by assumption), by omega⟩) | skip
  all_goals first | exact (numO hy hs (.inl (inB_f (by assumption)))).2 | exact (numO hy hs (.inr (.inl ⟨by omega, by omega⟩))).2 | exact (numO hy hs (.inr (.inr (by assumption)))).2 | exact l9 y s (numO hy hs (.inl (inB_f (by assumption)))).1 | exact l9 y s (numO hy hs (.inr (.inl ⟨by omega, by omega⟩))).1 | exact l10 y s (numO hy hs (.inl (inB_f (by assumption)))).1 | exact l10 y s (numO hy hs (.inr (.inl ⟨by omega, by omega⟩))).1 | exact l10 y s (numO hy hs (.inr (.inr (by assumption)))).1 | (refine congrArg D.bool ?_; simp [*]; done)

end Go.Proofs.Ytnkdkdjifalmbaa
