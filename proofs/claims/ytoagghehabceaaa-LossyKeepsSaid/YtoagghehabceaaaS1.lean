/-
laws 31: contracts of the library's functions on rows of packets, and of the small ones.
-/
import Derived.Test.YtoagghehabceaaaS0
import Derived.Test.YtoagghehabceaaaProg
import Derived.KernelRfl
set_option linter.unusedSimpArgs false
set_option linter.unusedVariables false
namespace Go.Proofs.Ytoagghehabceaaa
open Sx Go.RowKit

def gIn : List D → Option (AV × List Ob) := fun | [.int _ a, .int _ n] => some (.d (.bool (lIn a n)), []) | _ => none
set_option maxRecDepth 100000 in
set_option maxHeartbeats 1000000 in
theorem in39 (a n : Int) : FnOK Try.prog 39 ([.d (.int .i64 a), .d (.int .i64 n)]) ([]) (.d (.bool (lIn a n))) ([]) := by
  refine fnOK_wp (p := condP (decide (a ≥ (0 : Int))) ((D.bool (decide (a ≥ (0 : Int))) = D.bool true) ∧ ((AV.d (D.bool (decide (a ≤ n))) = AV.d (D.bool (lIn a n))) ∧ (True))) ((D.bool (decide (a ≥ (0 : Int))) = D.bool false) ∧ ((AV.d (D.bool false) = AV.d (D.bool (lIn a n))) ∧ (True)))) (h := {}) (subs := []) (ws := []) (ρ := []) (by kernel_rfl) ?_
  unfold lIn
  repeat' (first | with_reducible exact True.intro | with_reducible refine And.intro ?_ ?_ | with_reducible refine condP_dec (fun _ => ?_) (fun _ => ?_) | with_reducible refine condP_eq (fun _ => ?_) (fun _ => ?_) | with_reducible refine condP_ne (fun _ => ?_) (fun _ => ?_) | with_reducible refine condP_not (condP_dec (fun _ => ?_) (fun _ => ?_)) | with_reducible refine condP_not (condP_eq (fun _ => ?_) (fun _ => ?_)) | with_reducible refine condP_not (condP_intro (fun _ => ?_) (fun _ => ?_)) | with_reducible refine condP_intro (fun _ => ?_) (fun _ => ?_))
  all_goals (try simp only [List.length_map, AV.d.injEq, D.int.injEq, D.bool.injEq, D.str.injEq, D.sl.injEq, true_and, and_true, decide_eq_true_eq, decide_eq_false_iff_not, decide_eq_decide])
  all_goals (try simp only [List.length_map] at *)
  all_goals first | rfl | omega | (rw [decide_eq_true_eq]; omega) | (rw [decide_eq_false_iff_not]; omega) | (refine decide_eq_decide.2 ⟨?_, ?_⟩ <;> intros <;> omega) | (refine (decide_eq_false ?_).symm; omega) | skip

set_option maxRecDepth 100000 in
set_option maxHeartbeats 1000000 in
theorem wrong28 (x : Pk) : FnOK Try.prog 28 ([.d (pkD x)]) ([]) (.d (.bool (lWrong x))) ([]) := by
  refine fnOK_wp (p := condP (!lIn x.p (3 : Int)) ((FnOK Try.prog (39 : Nat) [AV.d (D.int IntKind.i64 x.p), AV.d (D.int IntKind.i64 (3 : Int))] [] (AV.d (D.bool (lIn x.p (3 : Int)))) []) ∧ (((D.bool !lIn x.p (3 : Int)) = D.bool true) ∧ ((AV.d (D.bool true) = AV.d (D.bool (lWrong x))) ∧ (True)))) ((FnOK Try.prog (39 : Nat) [AV.d (D.int IntKind.i64 x.p), AV.d (D.int IntKind.i64 (3 : Int))] [] (AV.d (D.bool (lIn x.p (3 : Int)))) []) ∧ (((D.bool !lIn x.p (3 : Int)) = D.bool false) ∧ ((FnOK Try.prog (39 : Nat) [AV.d (D.int IntKind.i64 x.t), AV.d (D.int IntKind.i64 (1 : Int))] [] (AV.d (D.bool (lIn x.t (1 : Int)))) []) ∧ ((AV.d (D.bool !lIn x.t (1 : Int)) = AV.d (D.bool (lWrong x))) ∧ (True)))))) (h := {G := [(39, gIn)]}) (subs := []) (ws := []) (ρ := []) (by kernel_rfl) ?_
  repeat' (first | with_reducible exact True.intro | with_reducible refine And.intro ?_ ?_ | with_reducible refine condP_dec (fun _ => ?_) (fun _ => ?_) | with_reducible refine condP_eq (fun _ => ?_) (fun _ => ?_) | with_reducible refine condP_ne (fun _ => ?_) (fun _ => ?_) | with_reducible refine condP_not (condP_dec (fun _ => ?_) (fun _ => ?_)) | with_reducible refine condP_not (condP_eq (fun _ => ?_) (fun _ => ?_)) | with_reducible refine condP_not (condP_intro (fun _ => ?_) (fun _ => ?_)) | with_reducible refine condP_intro (fun _ => ?_) (fun _ => ?_))
  all_goals first | rfl | exact in39 _ _ | skip
  all_goals (try unfold lIn)
  all_goals (try unfold lIn at *)
  all_goals (try unfold lWrong)
  all_goals first | rfl | (refine congrArg (fun z => AV.d (D.bool z)) ?_; (first | (refine decide_eq_decide.2 ⟨?_, ?_⟩ <;> intros <;> omega) | (refine (decide_eq_true ?_).symm; omega) | (refine (decide_eq_false ?_).symm; omega) | (rw [Bool.eq_iff_iff]; simp at *; omega) | (simp_all; done) | (simp_all; omega))) | (refine congrArg D.bool ?_; simp_all; done) | (refine congrArg D.bool ?_; simp_all; omega) | skip

set_option maxRecDepth 100000 in
set_option maxHeartbeats 1000000 in
theorem right31 (x : Pk) : FnOK Try.prog 31 ([.d (pkD x)]) ([]) (.d (.bool (!lWrong x))) ([]) := by
  refine fnOK_wp (p := condP (decide (x.p ≥ (0 : Int))) (condP (decide (x.p < (4 : Int))) (condP (x.t == (0 : Int)) ((D.bool (decide (x.p ≥ (0 : Int))) = D.bool true) ∧ ((D.bool (decide (x.p < (4 : Int))) = D.bool true) ∧ ((D.bool (x.t == (0 : Int)) = D.bool true) ∧ ((AV.d (D.bool true) = AV.d (D.bool !lWrong x)) ∧ (True))))) ((D.bool (decide (x.p ≥ (0 : Int))) = D.bool true) ∧ ((D.bool (decide (x.p < (4 : Int))) = D.bool true) ∧ ((D.bool (x.t == (0 : Int)) = D.bool false) ∧ ((AV.d (D.bool (x.t == (1 : Int))) = AV.d (D.bool !lWrong x)) ∧ (True)))))) ((D.bool (decide (x.p ≥ (0 : Int))) = D.bool true) ∧ ((D.bool (decide (x.p < (4 : Int))) = D.bool false) ∧ ((AV.d (D.bool false) = AV.d (D.bool !lWrong x)) ∧ (True))))) ((D.bool (decide (x.p ≥ (0 : Int))) = D.bool false) ∧ ((D.bool false = D.bool false) ∧ ((AV.d (D.bool false) = AV.d (D.bool !lWrong x)) ∧ (True))))) (h := {}) (subs := []) (ws := []) (ρ := []) (by kernel_rfl) ?_
  repeat' (first | with_reducible exact True.intro | with_reducible refine And.intro ?_ ?_ | with_reducible refine condP_dec (fun _ => ?_) (fun _ => ?_) | with_reducible refine condP_eq (fun _ => ?_) (fun _ => ?_) | with_reducible refine condP_ne (fun _ => ?_) (fun _ => ?_) | with_reducible refine condP_not (condP_dec (fun _ => ?_) (fun _ => ?_)) | with_reducible refine condP_not (condP_eq (fun _ => ?_) (fun _ => ?_)) | with_reducible refine condP_not (condP_intro (fun _ => ?_) (fun _ => ?_)) | with_reducible refine condP_intro (fun _ => ?_) (fun _ => ?_))
  all_goals first | rfl | exact in39 _ _ | skip
  all_goals (try unfold lIn)
  all_goals (try unfold lIn at *)
  all_goals (try unfold lWrong)
  all_goals first | rfl | (refine congrArg (fun z => AV.d (D.bool z)) ?_; (first | (refine decide_eq_decide.2 ⟨?_, ?_⟩ <;> intros <;> omega) | (refine (decide_eq_true ?_).symm; omega) | (refine (decide_eq_false ?_).symm; omega) | (rw [Bool.eq_iff_iff]; simp at *; omega) | (simp_all; done) | (simp_all; omega))) | (refine congrArg D.bool ?_; simp_all; done) | (refine congrArg D.bool ?_; simp_all; omega) | skip

/-! ### The first that is wrong -/
def I42 (l : List Pk) (f : AV) (j : Nat) : St := ⟨[(0, .d (.sl (l.map pkD))), (1, f), (7, .d (.int .i64 l.length)), (8, .d (.int .i64 j))], []⟩
def O42 (m : Int) : St := ⟨[(4, .d (.int .i64 m))], []⟩
set_option maxRecDepth 100000 in
set_option maxHeartbeats 1000000 in
theorem r42 (l : List Pk) (hl : l.length < 1073741824) (j : Nat) (x : Pk) (hn : l[j]? = some x) (hx : lWrong x = false) : Runs Try.prog 0 (loopN Try.prog 42 0) (St.as (I42 l (.fn 28 []) j) 19) (.normal) (St.as (I42 l (.fn 28 []) (j+1)) 19) := by
  refine round_wp (p := condP (decide ((↑j : Int) < (↑l.length : Int))) (((0 : Int) ≤ (↑j : Int)) ∧ (((List.map pkD l)[(↑j : Int).toNat]? = some (D.agg [D.int IntKind.i64 x.p, D.int IntKind.i64 x.t, D.str x.d])) ∧ ((FnOK Try.prog (28 : Nat) [AV.d (D.agg [D.int IntKind.i64 x.p, D.int IntKind.i64 x.t, D.str x.d])] [] (AV.d (D.bool false)) []) ∧ ((AV.d (D.sl (List.map pkD l)) = AV.d (D.sl (List.map pkD l))) ∧ ((AV.fn (28 : Nat) [] = AV.fn (28 : Nat) []) ∧ ((AV.d (D.int IntKind.i64 (↑l.length : Int)) = AV.d (D.int IntKind.i64 (↑l.length : Int))) ∧ ((AV.d (D.int IntKind.i64 (IntKind.i64.wrap ((↑j : Int) + (1 : Int)))) = AV.d (D.int IntKind.i64 (↑(j + (1 : Nat)) : Int))) ∧ (True)))))))) (False)) (h := {els := [(12, .el (pkD x)), (11, .call [] (.d (.bool false)) [])]}) (subs := []) (ws := []) (ρ := []) (by kernel_rfl) ?_
  have hj := get_lt hn
  have h1 := wrong28 x
  rw [hx] at h1
  rw [inc_i64 (by omega)]
  refine condP_t (by rw [decide_eq_true_eq]; omega) ?_
  repeat' (first | with_reducible exact True.intro | with_reducible refine And.intro ?_ ?_ | with_reducible refine condP_dec (fun _ => ?_) (fun _ => ?_) | with_reducible refine condP_eq (fun _ => ?_) (fun _ => ?_) | with_reducible refine condP_ne (fun _ => ?_) (fun _ => ?_) | with_reducible refine condP_not (condP_dec (fun _ => ?_) (fun _ => ?_)) | with_reducible refine condP_not (condP_eq (fun _ => ?_) (fun _ => ?_)) | with_reducible refine condP_not (condP_intro (fun _ => ?_) (fun _ => ?_)) | with_reducible refine condP_intro (fun _ => ?_) (fun _ => ?_))
  all_goals first | exact h1 | exact el_map hn rfl | rfl | omega | skip

set_option maxRecDepth 100000 in
set_option maxHeartbeats 1000000 in
theorem e42 (l : List Pk) (hl : l.length < 1073741824) (j : Nat) (x : Pk) (hn : l[j]? = some x) (hx : lWrong x = true) : Runs Try.prog 0 (loopN Try.prog 42 0) (St.as (I42 l (.fn 28 []) j) 19) (.ret) (St.as (O42 j) 19) := by
  refine round_wp (p := condP (decide ((↑j : Int) < (↑l.length : Int))) (((0 : Int) ≤ (↑j : Int)) ∧ (((List.map pkD l)[(↑j : Int).toNat]? = some (D.agg [D.int IntKind.i64 x.p, D.int IntKind.i64 x.t, D.str x.d])) ∧ ((FnOK Try.prog (28 : Nat) [AV.d (D.agg [D.int IntKind.i64 x.p, D.int IntKind.i64 x.t, D.str x.d])] [] (AV.d (D.bool true)) []) ∧ ((AV.d (D.int IntKind.i64 (↑j : Int)) = AV.d (D.int IntKind.i64 (↑j : Int))) ∧ (True))))) (False)) (h := {els := [(12, .el (pkD x)), (11, .call [] (.d (.bool true)) [])]}) (subs := []) (ws := []) (ρ := []) (by kernel_rfl) ?_
  have hj := get_lt hn
  have h1 := wrong28 x
  rw [hx] at h1
  refine condP_t (by rw [decide_eq_true_eq]; omega) ?_
  repeat' (first | with_reducible exact True.intro | with_reducible refine And.intro ?_ ?_ | with_reducible refine condP_dec (fun _ => ?_) (fun _ => ?_) | with_reducible refine condP_eq (fun _ => ?_) (fun _ => ?_) | with_reducible refine condP_ne (fun _ => ?_) (fun _ => ?_) | with_reducible refine condP_not (condP_dec (fun _ => ?_) (fun _ => ?_)) | with_reducible refine condP_not (condP_eq (fun _ => ?_) (fun _ => ?_)) | with_reducible refine condP_not (condP_intro (fun _ => ?_) (fun _ => ?_)) | with_reducible refine condP_intro (fun _ => ?_) (fun _ => ?_))
  all_goals first | exact h1 | exact el_map hn rfl | rfl | omega | skip

set_option maxRecDepth 100000 in
set_option maxHeartbeats 1000000 in
theorem q42 (l : List Pk) : Runs Try.prog 0 (loopN Try.prog 42 0) (St.as (I42 l (.fn 28 []) l.length) 19) (.exit 0) (St.as (I42 l (.fn 28 []) l.length) 19) := by
  refine round_wp (p := condP (decide ((↑l.length : Int) < (↑l.length : Int))) (False) ((AV.d (D.sl (List.map pkD l)) = AV.d (D.sl (List.map pkD l))) ∧ ((AV.fn (28 : Nat) [] = AV.fn (28 : Nat) []) ∧ ((AV.d (D.int IntKind.i64 (↑l.length : Int)) = AV.d (D.int IntKind.i64 (↑l.length : Int))) ∧ ((AV.d (D.int IntKind.i64 (↑l.length : Int)) = AV.d (D.int IntKind.i64 (↑l.length : Int))) ∧ (True)))))) (h := {}) (subs := []) (ws := []) (ρ := []) (by kernel_rfl) ?_
  repeat' (first | with_reducible exact True.intro | with_reducible refine And.intro ?_ ?_ | with_reducible refine condP_dec (fun _ => ?_) (fun _ => ?_) | with_reducible refine condP_eq (fun _ => ?_) (fun _ => ?_) | with_reducible refine condP_ne (fun _ => ?_) (fun _ => ?_) | with_reducible refine condP_not (condP_dec (fun _ => ?_) (fun _ => ?_)) | with_reducible refine condP_not (condP_eq (fun _ => ?_) (fun _ => ?_)) | with_reducible refine condP_not (condP_intro (fun _ => ?_) (fun _ => ?_)) | with_reducible refine condP_intro (fun _ => ?_) (fun _ => ?_))
  all_goals (try simp only [List.length_map, AV.d.injEq, D.int.injEq, D.bool.injEq, D.str.injEq, D.sl.injEq, true_and, and_true, decide_eq_true_eq, decide_eq_false_iff_not, decide_eq_decide])
  all_goals (try simp only [List.length_map] at *)
  all_goals first | rfl | omega

set_option maxRecDepth 100000 in
set_option maxHeartbeats 1000000 in
theorem index42n (l : List Pk) (hL : Loops Try.prog 0 (loopN Try.prog 42 0) ((I42 l (.fn 28 []) 0).as 19) (.exit 0) ((I42 l (.fn 28 []) l.length).as 19)) : FnOK Try.prog 42 ([.d (.sl (l.map pkD)), .fn 28 []]) ([]) (.d (.int .i64 (-1))) ([]) := by
  refine fnOK_wp (p := (AV.d (D.sl (List.map pkD l)) = AV.d (D.sl (List.map pkD l))) ∧ ((AV.fn (28 : Nat) [] = AV.fn (28 : Nat) []) ∧ ((AV.d (D.int IntKind.i64 (↑(List.map pkD l).length : Int)) = AV.d (D.int IntKind.i64 (↑l.length : Int))) ∧ ((AV.d (D.int IntKind.i64 (0 : Int)) = AV.d (D.int IntKind.i64 (0 : Int))) ∧ ((LoopsS Try.prog (0 : Nat) (loopN Try.prog (42 : Nat) (0 : Nat)) (I42 l (AV.fn (28 : FuncId) []) (0 : Nat)) (Exit.exit (0 : Nat)) (I42 l (AV.fn (28 : FuncId) []) l.length) (19 : Nat)) ∧ ((AV.d (D.int IntKind.i64 (-1 : Int)) = AV.d (D.int IntKind.i64 (-1 : Int))) ∧ (True))))))) (h := {}) (subs := [⟨[], [], I42 l (.fn 28 []) 0, .exit 0, I42 l (.fn 28 []) l.length⟩]) (ws := []) (ρ := []) (by kernel_rfl) ?_
  simp only [List.length_map]
  repeat' (first | with_reducible exact True.intro | with_reducible refine And.intro ?_ ?_ | with_reducible refine condP_dec (fun _ => ?_) (fun _ => ?_) | with_reducible refine condP_eq (fun _ => ?_) (fun _ => ?_) | with_reducible refine condP_ne (fun _ => ?_) (fun _ => ?_) | with_reducible refine condP_not (condP_dec (fun _ => ?_) (fun _ => ?_)) | with_reducible refine condP_not (condP_eq (fun _ => ?_) (fun _ => ?_)) | with_reducible refine condP_not (condP_intro (fun _ => ?_) (fun _ => ?_)) | with_reducible refine condP_intro (fun _ => ?_) (fun _ => ?_))
  all_goals first | exact hL | rfl | skip

set_option maxRecDepth 100000 in
set_option maxHeartbeats 1000000 in
theorem index42y (l : List Pk) (m : Nat) (hL : Loops Try.prog 0 (loopN Try.prog 42 0) ((I42 l (.fn 28 []) 0).as 19) .ret ((O42 m).as 19)) : FnOK Try.prog 42 ([.d (.sl (l.map pkD)), .fn 28 []]) ([]) (.d (.int .i64 m)) ([]) := by
  refine fnOK_wp (p := (AV.d (D.sl (List.map pkD l)) = AV.d (D.sl (List.map pkD l))) ∧ ((AV.fn (28 : Nat) [] = AV.fn (28 : Nat) []) ∧ ((AV.d (D.int IntKind.i64 (↑(List.map pkD l).length : Int)) = AV.d (D.int IntKind.i64 (↑l.length : Int))) ∧ ((AV.d (D.int IntKind.i64 (0 : Int)) = AV.d (D.int IntKind.i64 (0 : Int))) ∧ ((LoopsS Try.prog (0 : Nat) (loopN Try.prog (42 : Nat) (0 : Nat)) (I42 l (AV.fn (28 : FuncId) []) (0 : Nat)) Exit.ret (O42 (↑m : Int)) (19 : Nat)) ∧ ((AV.d (D.int IntKind.i64 (↑m : Int)) = AV.d (D.int IntKind.i64 (↑m : Int))) ∧ (True))))))) (h := {}) (subs := [⟨[], [], I42 l (.fn 28 []) 0, .ret, O42 m⟩]) (ws := []) (ρ := []) (by kernel_rfl) ?_
  simp only [List.length_map]
  repeat' (first | with_reducible exact True.intro | with_reducible refine And.intro ?_ ?_ | with_reducible refine condP_dec (fun _ => ?_) (fun _ => ?_) | with_reducible refine condP_eq (fun _ => ?_) (fun _ => ?_) | with_reducible refine condP_ne (fun _ => ?_) (fun _ => ?_) | with_reducible refine condP_not (condP_dec (fun _ => ?_) (fun _ => ?_)) | with_reducible refine condP_not (condP_eq (fun _ => ?_) (fun _ => ?_)) | with_reducible refine condP_not (condP_intro (fun _ => ?_) (fun _ => ?_)) | with_reducible refine condP_intro (fun _ => ?_) (fun _ => ?_))
  all_goals first | exact hL | rfl | skip

theorem index42 (l : List Pk) (hl : l.length < 1073741824) : ∃ k : Int, decide (k ≥ 0) = l.any lWrong ∧ FnOK Try.prog 42 [.d (.sl (l.map pkD)), .fn 28 []] [] (.d (.int .i64 k)) [] := by
  rcases all_or (fun x => lWrong x = false) l with h | ⟨m, x, h1, h2, h3⟩
  · refine ⟨-1, ?_, index42n l (loops_n (I := fun j => (I42 l (.fn 28 []) j).as 19) (by simp) l.length 0 (by omega) (fun j _ hj => r42 l hl j l[j] (get_of hj) (h _ (List.getElem_mem hj))) (q42 l))⟩
    have : l.any lWrong = false := by rw [List.any_eq_false]; intro x hx; rw [h x hx]; simp
    rw [this]; rfl
  · have hm := get_lt h1
    have h2 : lWrong x = true := by cases hw : lWrong x; exact absurd hw h2; rfl
    refine ⟨(m : Int), ?_, index42y l m (loops_n (I := fun j => (I42 l (.fn 28 []) j).as 19) (by simp) m 0 (by omega) (fun j _ hj => r42 l hl j (l[j]'(by omega)) (get_of _) (h3 j _ hj (get_of _))) (e42 l hl m x h1 h2))⟩
    have : l.any lWrong = true := List.any_eq_true.2 ⟨x, get_mem h1, h2⟩
    rw [this]; exact decide_eq_true (by omega)
set_option maxRecDepth 100000 in
set_option maxHeartbeats 1000000 in
theorem contains38 (l : List Pk) (k : Int) (h : FnOK Try.prog 42 [.d (.sl (l.map pkD)), .fn 28 []] [] (.d (.int .i64 k)) []) : FnOK Try.prog 38 ([.d (.sl (l.map pkD)), .fn 28 []]) ([]) (.d (.bool (decide (k ≥ 0)))) ([]) := by
  refine fnOK_wp (p := (FnOK Try.prog (42 : Nat) [AV.d (D.sl (List.map pkD l)), AV.fn (28 : Nat) []] [] (AV.d (D.int IntKind.i64 k)) []) ∧ ((AV.d (D.bool (decide (k ≥ (0 : Int)))) = AV.d (D.bool (decide (k ≥ (0 : Int))))) ∧ (True))) (h := {H := [(1, [(2, .call [] (.d (.int .i64 k)) [])])]}) (subs := []) (ws := []) (ρ := []) (by kernel_rfl) ?_
  exact ⟨h, rfl, trivial⟩

theorem contains38' (l : List Pk) (hl : l.length < 1073741824) : FnOK Try.prog 38 [.d (.sl (l.map pkD)), .fn 28 []] [] (.d (.bool (l.any lWrong))) [] := by
  obtain ⟨k, h1, h2⟩ := index42 l hl
  rw [← h1]
  exact contains38 l k h2
/-! ### Whether a state may be -/
set_option maxRecDepth 100000 in
set_option maxHeartbeats 1000000 in
theorem chk25 (x : Ls) (hl : x.l.length < 1073741824) : FnOK Try.prog 25 ([.d (lsD x)]) ([]) (.d (.int .i64 (lChk x))) ([]) := by
  refine fnOK_wp (p := condP (decide ((↑(List.map pkD x.l).length : Int) > (200 : Int))) ((AV.d (D.int IntKind.i64 (5 : Int)) = AV.d (D.int IntKind.i64 (lChk x))) ∧ (True)) (condP (x.l.any lWrong) ((FnOK Try.prog (38 : Nat) [AV.d (D.sl (List.map pkD x.l)), AV.fn (28 : Nat) []] [] (AV.d (D.bool (x.l.any lWrong))) []) ∧ ((D.bool (x.l.any lWrong) = D.bool true) ∧ ((D.bool true = D.bool true) ∧ ((AV.d (D.int IntKind.i64 (8 : Int)) = AV.d (D.int IntKind.i64 (lChk x))) ∧ (True))))) (condP (!lIn x.s (1099511627776 : Int)) ((FnOK Try.prog (38 : Nat) [AV.d (D.sl (List.map pkD x.l)), AV.fn (28 : Nat) []] [] (AV.d (D.bool (x.l.any lWrong))) []) ∧ ((D.bool (x.l.any lWrong) = D.bool false) ∧ ((FnOK Try.prog (39 : Nat) [AV.d (D.int IntKind.i64 x.s), AV.d (D.int IntKind.i64 (1099511627776 : Int))] [] (AV.d (D.bool (lIn x.s (1099511627776 : Int)))) []) ∧ (((D.bool !lIn x.s (1099511627776 : Int)) = D.bool true) ∧ ((AV.d (D.int IntKind.i64 (8 : Int)) = AV.d (D.int IntKind.i64 (lChk x))) ∧ (True)))))) ((FnOK Try.prog (38 : Nat) [AV.d (D.sl (List.map pkD x.l)), AV.fn (28 : Nat) []] [] (AV.d (D.bool (x.l.any lWrong))) []) ∧ ((D.bool (x.l.any lWrong) = D.bool false) ∧ ((FnOK Try.prog (39 : Nat) [AV.d (D.int IntKind.i64 x.s), AV.d (D.int IntKind.i64 (1099511627776 : Int))] [] (AV.d (D.bool (lIn x.s (1099511627776 : Int)))) []) ∧ (((D.bool !lIn x.s (1099511627776 : Int)) = D.bool false) ∧ ((FnOK Try.prog (39 : Nat) [AV.d (D.int IntKind.i64 x.c), AV.d (D.int IntKind.i64 (1099511627776 : Int))] [] (AV.d (D.bool (lIn x.c (1099511627776 : Int)))) []) ∧ (condP (!lIn x.c (1099511627776 : Int)) ((AV.d (D.int IntKind.i64 (8 : Int)) = AV.d (D.int IntKind.i64 (lChk x))) ∧ (True)) ((AV.d (D.int IntKind.i64 (0 : Int)) = AV.d (D.int IntKind.i64 (lChk x))) ∧ (True))))))))))) (h := {G := [(39, gIn)], H := [(3, [(2, .call [] (.d (.bool (x.l.any lWrong))) [])])]}) (subs := []) (ws := []) (ρ := []) (by kernel_rfl) ?_
  have h1 := contains38' x.l hl
  simp only [List.length_map]
  generalize hw : x.l.any lWrong = b at *
  unfold lChk
  rw [hw]
  repeat' (first | with_reducible exact True.intro | with_reducible refine And.intro ?_ ?_ | with_reducible refine condP_dec (fun _ => ?_) (fun _ => ?_) | with_reducible refine condP_eq (fun _ => ?_) (fun _ => ?_) | with_reducible refine condP_ne (fun _ => ?_) (fun _ => ?_) | with_reducible refine condP_not (condP_dec (fun _ => ?_) (fun _ => ?_)) | with_reducible refine condP_not (condP_eq (fun _ => ?_) (fun _ => ?_)) | with_reducible refine condP_not (condP_intro (fun _ => ?_) (fun _ => ?_)) | with_reducible refine condP_intro (fun _ => ?_) (fun _ => ?_))
  all_goals first | exact h1 | exact in39 _ _ | rfl | skip
  all_goals clear hw h1
  all_goals unfold lIn at *
  all_goals (try unfold lOut)
  all_goals first | (refine congrArg (fun z => AV.d (D.int .i64 z)) ?_; simp at *; (repeat' split) <;> first | rfl | omega | (exfalso; omega) | (simp_all; done) | (simp_all; omega)) | (refine congrArg D.bool ?_; simp_all; done) | (refine congrArg D.bool ?_; simp at *; omega) | skip

def I26 (x : Ls) (j : Nat) : St := ⟨[(1, .ptr 0 0), (3, .d (.int .i64 j))], [(0, .box [.d (.sl (x.l.map pkD)), .d (.int .i64 x.s), .d (.int .i64 x.c)])]⟩
def O26 : St := ⟨[(2, .d (.int .i64 8))], []⟩
set_option maxRecDepth 100000 in
set_option maxHeartbeats 1000000 in
theorem r26 (x : Ls) (hl : x.l.length < 1073741824) (j : Nat) (y : Pk) (hn : x.l[j]? = some y) (hx : lWrong y = false) : Runs Try.prog 0 (loopN Try.prog 26 0) (St.as (I26 x j) 40) (.normal) (St.as (I26 x (j+1)) 40) := by
  refine round_wp (p := condP (decide ((↑j : Int) < (↑(List.map pkD x.l).length : Int))) (((0 : Int) ≤ (↑j : Int)) ∧ (((List.map pkD x.l)[(↑j : Int).toNat]? = some (D.agg [D.int IntKind.i64 y.p, D.int IntKind.i64 y.t, D.str y.d])) ∧ ((FnOK Try.prog (31 : Nat) [AV.d (D.agg [D.int IntKind.i64 y.p, D.int IntKind.i64 y.t, D.str y.d])] [] (AV.d (D.bool true)) []) ∧ ((AV.ptr (0 : Nat) (0 : Nat) = AV.ptr (0 : Nat) (0 : Nat)) ∧ ((AV.d (D.int IntKind.i64 (IntKind.i64.wrap ((↑j : Int) + (1 : Int)))) = AV.d (D.int IntKind.i64 (↑(j + (1 : Nat)) : Int))) ∧ ((Ob.box [AV.d (D.sl (List.map pkD x.l)), AV.d (D.int IntKind.i64 x.s), AV.d (D.int IntKind.i64 x.c)] = Ob.box [AV.d (D.sl (List.map pkD x.l)), AV.d (D.int IntKind.i64 x.s), AV.d (D.int IntKind.i64 x.c)]) ∧ (True))))))) (False)) (h := {els := [(16, .el (pkD y))], H := [(6, [(5, .call [] (.d (.bool true)) [])])]}) (subs := []) (ws := []) (ρ := []) (by kernel_rfl) ?_
  have hj := get_lt hn
  have h1 := right31 y
  rw [hx] at h1
  rw [inc_i64 (by omega)]
  refine condP_t (by rw [decide_eq_true_eq, List.length_map]; omega) ?_
  repeat' (first | with_reducible exact True.intro | with_reducible refine And.intro ?_ ?_ | with_reducible refine condP_dec (fun _ => ?_) (fun _ => ?_) | with_reducible refine condP_eq (fun _ => ?_) (fun _ => ?_) | with_reducible refine condP_ne (fun _ => ?_) (fun _ => ?_) | with_reducible refine condP_not (condP_dec (fun _ => ?_) (fun _ => ?_)) | with_reducible refine condP_not (condP_eq (fun _ => ?_) (fun _ => ?_)) | with_reducible refine condP_not (condP_intro (fun _ => ?_) (fun _ => ?_)) | with_reducible refine condP_intro (fun _ => ?_) (fun _ => ?_))
  all_goals first | exact h1 | exact el_map hn rfl | rfl | omega | skip

set_option maxRecDepth 100000 in
set_option maxHeartbeats 1000000 in
theorem e26 (x : Ls) (hl : x.l.length < 1073741824) (j : Nat) (y : Pk) (hn : x.l[j]? = some y) (hx : lWrong y = true) : Runs Try.prog 0 (loopN Try.prog 26 0) (St.as (I26 x j) 40) (.ret) (St.as (O26) 40) := by
  refine round_wp (p := condP (decide ((↑j : Int) < (↑(List.map pkD x.l).length : Int))) (((0 : Int) ≤ (↑j : Int)) ∧ (((List.map pkD x.l)[(↑j : Int).toNat]? = some (D.agg [D.int IntKind.i64 y.p, D.int IntKind.i64 y.t, D.str y.d])) ∧ ((FnOK Try.prog (31 : Nat) [AV.d (D.agg [D.int IntKind.i64 y.p, D.int IntKind.i64 y.t, D.str y.d])] [] (AV.d (D.bool false)) []) ∧ ((AV.d (D.int IntKind.i64 (8 : Int)) = AV.d (D.int IntKind.i64 (8 : Int))) ∧ (True))))) (False)) (h := {els := [(16, .el (pkD y))], H := [(6, [(5, .call [] (.d (.bool false)) [])])]}) (subs := []) (ws := []) (ρ := []) (by kernel_rfl) ?_
  have hj := get_lt hn
  have h1 := right31 y
  rw [hx] at h1
  refine condP_t (by rw [decide_eq_true_eq, List.length_map]; omega) ?_
  repeat' (first | with_reducible exact True.intro | with_reducible refine And.intro ?_ ?_ | with_reducible refine condP_dec (fun _ => ?_) (fun _ => ?_) | with_reducible refine condP_eq (fun _ => ?_) (fun _ => ?_) | with_reducible refine condP_ne (fun _ => ?_) (fun _ => ?_) | with_reducible refine condP_not (condP_dec (fun _ => ?_) (fun _ => ?_)) | with_reducible refine condP_not (condP_eq (fun _ => ?_) (fun _ => ?_)) | with_reducible refine condP_not (condP_intro (fun _ => ?_) (fun _ => ?_)) | with_reducible refine condP_intro (fun _ => ?_) (fun _ => ?_))
  all_goals first | exact h1 | exact el_map hn rfl | rfl | omega | skip

set_option maxRecDepth 100000 in
set_option maxHeartbeats 1000000 in
theorem q26 (x : Ls) : Runs Try.prog 0 (loopN Try.prog 26 0) (St.as (I26 x x.l.length) 40) (.exit 0) (St.as (I26 x x.l.length) 40) := by
  refine round_wp (p := condP (decide ((↑x.l.length : Int) < (↑(List.map pkD x.l).length : Int))) (False) ((AV.ptr (0 : Nat) (0 : Nat) = AV.ptr (0 : Nat) (0 : Nat)) ∧ ((AV.d (D.int IntKind.i64 (↑x.l.length : Int)) = AV.d (D.int IntKind.i64 (↑x.l.length : Int))) ∧ ((Ob.box [AV.d (D.sl (List.map pkD x.l)), AV.d (D.int IntKind.i64 x.s), AV.d (D.int IntKind.i64 x.c)] = Ob.box [AV.d (D.sl (List.map pkD x.l)), AV.d (D.int IntKind.i64 x.s), AV.d (D.int IntKind.i64 x.c)]) ∧ (True))))) (h := {}) (subs := []) (ws := []) (ρ := []) (by kernel_rfl) ?_
  repeat' (first | with_reducible exact True.intro | with_reducible refine And.intro ?_ ?_ | with_reducible refine condP_dec (fun _ => ?_) (fun _ => ?_) | with_reducible refine condP_eq (fun _ => ?_) (fun _ => ?_) | with_reducible refine condP_ne (fun _ => ?_) (fun _ => ?_) | with_reducible refine condP_not (condP_dec (fun _ => ?_) (fun _ => ?_)) | with_reducible refine condP_not (condP_eq (fun _ => ?_) (fun _ => ?_)) | with_reducible refine condP_not (condP_intro (fun _ => ?_) (fun _ => ?_)) | with_reducible refine condP_intro (fun _ => ?_) (fun _ => ?_))
  all_goals (try simp only [List.length_map, AV.d.injEq, D.int.injEq, D.bool.injEq, D.str.injEq, D.sl.injEq, true_and, and_true, decide_eq_true_eq, decide_eq_false_iff_not, decide_eq_decide])
  all_goals (try simp only [List.length_map] at *)
  all_goals first | rfl | omega

set_option maxRecDepth 100000 in
set_option maxHeartbeats 1000000 in
theorem chk26m (x : Ls) (hl : x.l.length ≤ 200) (hw : x.l.any lWrong = true) (hL : Loops Try.prog 0 (loopN Try.prog 26 0) ((I26 x 0).as 40) .ret (O26.as 40)) : FnOK Try.prog 26 ([.d (lsD x)]) ([]) (.d (.int .i64 (lChk x))) ([]) := by
  refine fnOK_wp (p := condP (decide ((↑(List.map pkD x.l).length : Int) > (200 : Int))) ((AV.d (D.int IntKind.i64 (5 : Int)) = AV.d (D.int IntKind.i64 (lChk x))) ∧ (True)) ((AV.ptr (1008 : Nat) (0 : Nat) = AV.ptr (1008 : Nat) (0 : Nat)) ∧ ((AV.d (D.int IntKind.i64 (0 : Int)) = AV.d (D.int IntKind.i64 (0 : Int))) ∧ ((Ob.box [AV.d (D.sl (List.map pkD x.l)), AV.d (D.int IntKind.i64 x.s), AV.d (D.int IntKind.i64 x.c)] = Ob.box [AV.d (D.sl (List.map pkD x.l)), AV.d (D.int IntKind.i64 x.s), AV.d (D.int IntKind.i64 x.c)]) ∧ ((LoopsS Try.prog (0 : Nat) (loopN Try.prog (26 : Nat) (0 : Nat)) (I26 x (0 : Nat)) Exit.ret O26 (40 : Nat)) ∧ ((AV.d (D.int IntKind.i64 (8 : Int)) = AV.d (D.int IntKind.i64 (lChk x))) ∧ (True))))))) (h := {}) (subs := [⟨[], [], I26 x 0, .ret, O26⟩]) (ws := []) (ρ := []) (by kernel_rfl) ?_
  unfold lChk
  rw [if_neg (by omega), if_pos (.inl hw)]
  refine condP_f (by rw [decide_eq_false_iff_not, List.length_map]; omega) ?_
  exact ⟨rfl, rfl, rfl, hL, rfl, trivial⟩

set_option maxRecDepth 100000 in
set_option maxHeartbeats 1000000 in
theorem chk26y (x : Ls) (hl : x.l.length ≤ 200) (hw : x.l.any lWrong = false) (hL : Loops Try.prog 0 (loopN Try.prog 26 0) ((I26 x 0).as 40) (.exit 0) ((I26 x x.l.length).as 40)) : FnOK Try.prog 26 ([.d (lsD x)]) ([]) (.d (.int .i64 (lChk x))) ([]) := by
  refine fnOK_wp (p := condP (decide ((↑(List.map pkD x.l).length : Int) > (200 : Int))) ((AV.d (D.int IntKind.i64 (5 : Int)) = AV.d (D.int IntKind.i64 (lChk x))) ∧ (True)) ((AV.ptr (1008 : Nat) (0 : Nat) = AV.ptr (1008 : Nat) (0 : Nat)) ∧ ((AV.d (D.int IntKind.i64 (0 : Int)) = AV.d (D.int IntKind.i64 (0 : Int))) ∧ ((Ob.box [AV.d (D.sl (List.map pkD x.l)), AV.d (D.int IntKind.i64 x.s), AV.d (D.int IntKind.i64 x.c)] = Ob.box [AV.d (D.sl (List.map pkD x.l)), AV.d (D.int IntKind.i64 x.s), AV.d (D.int IntKind.i64 x.c)]) ∧ ((LoopsS Try.prog (0 : Nat) (loopN Try.prog (26 : Nat) (0 : Nat)) (I26 x (0 : Nat)) (Exit.exit (0 : Nat)) (I26 x x.l.length) (40 : Nat)) ∧ (condP (decide (x.s < (0 : Int))) ((D.bool (decide (x.s < (0 : Int))) = D.bool true) ∧ ((D.bool true = D.bool true) ∧ ((D.bool true = D.bool true) ∧ ((AV.d (D.int IntKind.i64 (8 : Int)) = AV.d (D.int IntKind.i64 (lChk x))) ∧ (True))))) (condP (decide (x.s > (1099511627776 : Int))) ((D.bool (decide (x.s < (0 : Int))) = D.bool false) ∧ ((D.bool (decide (x.s > (1099511627776 : Int))) = D.bool true) ∧ ((D.bool true = D.bool true) ∧ ((AV.d (D.int IntKind.i64 (8 : Int)) = AV.d (D.int IntKind.i64 (lChk x))) ∧ (True))))) (condP (decide (x.c < (0 : Int))) ((D.bool (decide (x.s < (0 : Int))) = D.bool false) ∧ ((D.bool (decide (x.s > (1099511627776 : Int))) = D.bool false) ∧ ((D.bool (decide (x.c < (0 : Int))) = D.bool true) ∧ ((AV.d (D.int IntKind.i64 (8 : Int)) = AV.d (D.int IntKind.i64 (lChk x))) ∧ (True))))) ((D.bool (decide (x.s < (0 : Int))) = D.bool false) ∧ ((D.bool (decide (x.s > (1099511627776 : Int))) = D.bool false) ∧ ((D.bool (decide (x.c < (0 : Int))) = D.bool false) ∧ (condP (decide (x.c > (1099511627776 : Int))) ((AV.d (D.int IntKind.i64 (8 : Int)) = AV.d (D.int IntKind.i64 (lChk x))) ∧ (True)) ((AV.d (D.int IntKind.i64 (0 : Int)) = AV.d (D.int IntKind.i64 (lChk x))) ∧ (True)))))))))))))) (h := {}) (subs := [⟨[], [], I26 x 0, .exit 0, I26 x x.l.length⟩]) (ws := []) (ρ := []) (by kernel_rfl) ?_
  unfold lChk
  rw [if_neg (by omega), hw]
  simp only [List.length_map]
  repeat' (first | with_reducible exact True.intro | with_reducible refine And.intro ?_ ?_ | with_reducible refine condP_dec (fun _ => ?_) (fun _ => ?_) | with_reducible refine condP_eq (fun _ => ?_) (fun _ => ?_) | with_reducible refine condP_ne (fun _ => ?_) (fun _ => ?_) | with_reducible refine condP_not (condP_dec (fun _ => ?_) (fun _ => ?_)) | with_reducible refine condP_not (condP_eq (fun _ => ?_) (fun _ => ?_)) | with_reducible refine condP_not (condP_intro (fun _ => ?_) (fun _ => ?_)) | with_reducible refine condP_intro (fun _ => ?_) (fun _ => ?_))
  all_goals first | exact hL | rfl | omega | exact dyes (by omega) | exact dno (by omega) | skip
  all_goals (refine congrArg (fun z => AV.d (D.int .i64 z)) ?_; unfold lOut; simp; (try omega))

set_option maxRecDepth 100000 in
set_option maxHeartbeats 1000000 in
theorem chk26l (x : Ls) (hl : ¬x.l.length ≤ 200) : FnOK Try.prog 26 ([.d (lsD x)]) ([]) (.d (.int .i64 5)) ([]) := by
  refine fnOK_wp (p := condP (decide ((↑(List.map pkD x.l).length : Int) > (200 : Int))) ((AV.d (D.int IntKind.i64 (5 : Int)) = AV.d (D.int IntKind.i64 (5 : Int))) ∧ (True)) ((AV.ptr (1008 : Nat) (0 : Nat) = AV.ptr (1008 : Nat) (0 : Nat)) ∧ ((AV.d (D.int IntKind.i64 (0 : Int)) = AV.d (D.int IntKind.i64 (0 : Int))) ∧ ((Ob.box [AV.d (D.sl (List.map pkD x.l)), AV.d (D.int IntKind.i64 x.s), AV.d (D.int IntKind.i64 x.c)] = Ob.box [AV.d (D.sl (List.map pkD x.l)), AV.d (D.int IntKind.i64 x.s), AV.d (D.int IntKind.i64 x.c)]) ∧ ((LoopsS Try.prog (0 : Nat) (loopN Try.prog (26 : Nat) (0 : Nat)) (I26 x (0 : Nat)) Exit.ret O26 (40 : Nat)) ∧ ((AV.d (D.int IntKind.i64 (8 : Int)) = AV.d (D.int IntKind.i64 (5 : Int))) ∧ (True))))))) (h := {}) (subs := [⟨[], [], I26 x 0, .ret, O26⟩]) (ws := []) (ρ := []) (by kernel_rfl) ?_
  refine condP_t (by rw [decide_eq_true_eq, List.length_map]; omega) ?_
  exact ⟨rfl, trivial⟩

theorem chk26 (x : Ls) (hl : x.l.length < 1073741824) : FnOK Try.prog 26 [.d (lsD x)] [] (.d (.int .i64 (lChk x))) [] := by
  by_cases h : x.l.length ≤ 200
  · rcases all_or (fun x => lWrong x = false) x.l with h0 | ⟨m, y, h1, h2, h3⟩
    · have hw : x.l.any lWrong = false := by rw [List.any_eq_false]; intro x hx; rw [h0 x hx]; simp
      exact chk26y x h hw (loops_n (I := fun j => (I26 x j).as 40) (by simp) x.l.length 0 (by omega) (fun j _ hj => r26 x hl j x.l[j] (get_of hj) (h0 _ (List.getElem_mem hj))) (q26 x))
    · have hm := get_lt h1
      have h2 : lWrong y = true := by cases hw : lWrong y; exact absurd hw h2; rfl
      have hw : x.l.any lWrong = true := List.any_eq_true.2 ⟨y, get_mem h1, h2⟩
      exact chk26m x h hw (loops_n (I := fun j => (I26 x j).as 40) (by simp) m 0 (by omega) (fun j _ hj => r26 x hl j (x.l[j]'(by omega)) (get_of _) (h3 j _ hj (get_of _))) (e26 x hl m y h1 h2))
  · have e : lChk x = 5 := if_pos (by omega)
    rw [e]; exact chk26l x h
end Go.Proofs.Ytoagghehabceaaa
