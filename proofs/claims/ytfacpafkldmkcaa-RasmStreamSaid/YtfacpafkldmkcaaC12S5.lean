/-
laws 12: light ones; the places that came.
-/
import Derived.Test.YtfacpafkldmkcaaC12S4
set_option linter.unusedSimpArgs false
set_option linter.unusedVariables false
namespace Go.Proofs.Ytfacpafkldmkcaa.C12
open Sx Go.RowKit

/-! ### Light -/
def mnD (l : List Pt) : Nat := (l.map (fun x => min 300 x.d.length)).foldl (· + ·) 0
theorem mnD_cons (x : Pt) (l : List Pt) : mnD (x :: l) = min 300 x.d.length + mnD l := by
  unfold mnD
  rw [List.map_cons, List.foldl_cons, foldl_add]
  omega
theorem mnD_append (l m : List Pt) : mnD (l ++ m) = mnD l + mnD m := by
  induction l with
  | nil => simp [mnD]
  | cons x r ih => rw [List.cons_append, mnD_cons, mnD_cons, ih]; omega
theorem mnD_take {l : List Pt} {j : Nat} {x : Pt} (h : l[j]? = some x) : mnD (l.take (j + 1)) = mnD (l.take j) + min 300 x.d.length := by
  rw [take_snoc h, mnD_append, mnD_cons]
  simp [mnD]
theorem mnD_le (l : List Pt) : mnD l ≤ 300 * l.length := by
  induction l with
  | nil => simp [mnD]
  | cons x r ih => rw [mnD_cons, List.length_cons]; omega
theorem mnD_sum {l : List Pt} (h : mnD l < 300) : sumD l = mnD l := by
  induction l with
  | nil => rfl
  | cons x r ih =>
    rw [mnD_cons] at h
    rw [mnD_cons, sumD_cons, ih (by omega)]
    omega
def I8 (s : Rq) (j : Nat) : St := ⟨[(1, .ptr 0 0), (3, .d (.int .i64 (mnD (s.p.take j)))), (4, .d (.int .i64 j))], [(0, rqB s)]⟩
set_option maxRecDepth 100000 in
set_option maxHeartbeats 1000000 in
theorem r8 (s : Rq) (j : Nat) (hj20 : j ≤ 20) (x : Pt) (hn : s.p[j]? = some x) : Runs Try.prog 0 (loopN Try.prog 6 0) (St.as (I8 s j) 40) (.normal) (St.as (I8 s (j+1)) 40) := by
  refine round_wp (p := (D.bool (decide ((↑j : Int) < (↑(List.map ptD s.p).length : Int))) = D.bool true) ∧ ((D.bool true = D.bool true) ∧ ((D.bool (decide ((↑j : Int) ≤ (20 : Int))) = D.bool true) ∧ (((0 : Int) ≤ (↑j : Int)) ∧ (((List.map ptD s.p)[(↑j : Int).toNat]? = some (D.agg [D.int IntKind.i64 x.a, D.str x.d])) ∧ ((AV.ptr (0 : Nat) (0 : Nat) = AV.ptr (0 : Nat) (0 : Nat)) ∧ ((AV.d (D.int IntKind.i64 (IntKind.i64.wrap ((↑(mnD (List.take j s.p)) : Int) + min (300 : Int) (↑x.d.length : Int)))) = AV.d (D.int IntKind.i64 (↑(mnD (List.take (j + (1 : Nat)) s.p)) : Int))) ∧ ((AV.d (D.int IntKind.i64 (IntKind.i64.wrap ((↑j : Int) + (1 : Int)))) = AV.d (D.int IntKind.i64 (↑(j + (1 : Nat)) : Int))) ∧ ((Ob.box [AV.d (D.int IntKind.i64 s.b), AV.d (D.str s.r), AV.d (D.sl (List.map ptD s.p))] = Ob.box [AV.d (D.int IntKind.i64 s.b), AV.d (D.str s.r), AV.d (D.sl (List.map ptD s.p))]) ∧ (True)))))))))) (h := {els := [(18, .el (ptD x))], H := [(3, [(4, .val (.bool true)), (7, .val (.bool true))])]}) (subs := []) (ws := []) (ρ := []) (by kernel_rfl) ?_
  have hj := get_lt hn
  have hs := mnD_take hn
  have hle := mnD_le (s.p.take j)
  have htl : (s.p.take j).length ≤ 20 := by simp; omega
  have hi := inc_i64 (j := j) (by omega)
  have hm : (min 300 (x.d.length : Int)) = ((min 300 x.d.length : Nat) : Int) := by omega
  have hw : IntKind.i64.wrap ((mnD (s.p.take j) : Int) + ((min 300 x.d.length : Nat) : Int)) = ((mnD (s.p.take (j + 1)) : Nat) : Int) := by rw [IntKind.wrap_i64, hs]; omega
  rw [hi]
  simp only [List.length_map, hm, hw]
  repeat' (first | with_reducible exact True.intro | with_reducible refine And.intro ?_ ?_ | with_reducible refine condP_dec (fun _ => ?_) (fun _ => ?_) | with_reducible refine condP_eq (fun _ => ?_) (fun _ => ?_) | with_reducible refine condP_ne (fun _ => ?_) (fun _ => ?_) | with_reducible refine condP_not (condP_dec (fun _ => ?_) (fun _ => ?_)) | with_reducible refine condP_not (condP_eq (fun _ => ?_) (fun _ => ?_)) | with_reducible refine condP_not (condP_intro (fun _ => ?_) (fun _ => ?_)) | with_reducible refine condP_intro (fun _ => ?_) (fun _ => ?_))
  all_goals first | exact el_map hn rfl | rfl | omega | exact dyes (by omega) | skip

set_option maxRecDepth 100000 in
set_option maxHeartbeats 1000000 in
theorem q8 (s : Rq) : Runs Try.prog 0 (loopN Try.prog 6 0) (St.as (I8 s s.p.length) 40) (.exit 0) (St.as (I8 s s.p.length) 40) := by
  refine round_wp (p := (D.bool (decide ((↑s.p.length : Int) < (↑(List.map ptD s.p).length : Int))) = D.bool false) ∧ ((D.bool false = D.bool false) ∧ ((AV.ptr (0 : Nat) (0 : Nat) = AV.ptr (0 : Nat) (0 : Nat)) ∧ ((AV.d (D.int IntKind.i64 (↑(mnD (List.take s.p.length s.p)) : Int)) = AV.d (D.int IntKind.i64 (↑(mnD (List.take s.p.length s.p)) : Int))) ∧ ((AV.d (D.int IntKind.i64 (↑s.p.length : Int)) = AV.d (D.int IntKind.i64 (↑s.p.length : Int))) ∧ ((Ob.box [AV.d (D.int IntKind.i64 s.b), AV.d (D.str s.r), AV.d (D.sl (List.map ptD s.p))] = Ob.box [AV.d (D.int IntKind.i64 s.b), AV.d (D.str s.r), AV.d (D.sl (List.map ptD s.p))]) ∧ (True))))))) (h := {H := [(3, [(4, .val (.bool false))])]}) (subs := []) (ws := []) (ρ := []) (by kernel_rfl) ?_
  simp only [List.length_map]
  repeat' (first | with_reducible exact True.intro | with_reducible refine And.intro ?_ ?_ | with_reducible refine condP_dec (fun _ => ?_) (fun _ => ?_) | with_reducible refine condP_eq (fun _ => ?_) (fun _ => ?_) | with_reducible refine condP_ne (fun _ => ?_) (fun _ => ?_) | with_reducible refine condP_not (condP_dec (fun _ => ?_) (fun _ => ?_)) | with_reducible refine condP_not (condP_eq (fun _ => ?_) (fun _ => ?_)) | with_reducible refine condP_not (condP_intro (fun _ => ?_) (fun _ => ?_)) | with_reducible refine condP_intro (fun _ => ?_) (fun _ => ?_))
  all_goals first | rfl | exact dno (by omega) | omega | skip

set_option maxRecDepth 100000 in
set_option maxHeartbeats 1000000 in
theorem z8 (s : Rq) (h : 21 < s.p.length) : Runs Try.prog 0 (loopN Try.prog 6 0) (St.as (I8 s 21) 40) (.exit 0) (St.as (I8 s 21) 40) := by
  refine round_wp (p := (D.bool (decide ((21 : Int) < (↑(List.map ptD s.p).length : Int))) = D.bool true) ∧ ((D.bool true = D.bool true) ∧ ((D.bool false = D.bool false) ∧ ((AV.ptr (0 : Nat) (0 : Nat) = AV.ptr (0 : Nat) (0 : Nat)) ∧ ((AV.d (D.int IntKind.i64 (↑(mnD (List.take (21 : Nat) s.p)) : Int)) = AV.d (D.int IntKind.i64 (↑(mnD (List.take (21 : Nat) s.p)) : Int))) ∧ ((AV.d (D.int IntKind.i64 (21 : Int)) = AV.d (D.int IntKind.i64 (21 : Int))) ∧ ((Ob.box [AV.d (D.int IntKind.i64 s.b), AV.d (D.str s.r), AV.d (D.sl (List.map ptD s.p))] = Ob.box [AV.d (D.int IntKind.i64 s.b), AV.d (D.str s.r), AV.d (D.sl (List.map ptD s.p))]) ∧ (True)))))))) (h := {H := [(3, [(4, .val (.bool true)), (7, .val (.bool false))])]}) (subs := []) (ws := []) (ρ := []) (by kernel_rfl) ?_
  simp only [List.length_map]
  repeat' (first | with_reducible exact True.intro | with_reducible refine And.intro ?_ ?_ | with_reducible refine condP_dec (fun _ => ?_) (fun _ => ?_) | with_reducible refine condP_eq (fun _ => ?_) (fun _ => ?_) | with_reducible refine condP_ne (fun _ => ?_) (fun _ => ?_) | with_reducible refine condP_not (condP_dec (fun _ => ?_) (fun _ => ?_)) | with_reducible refine condP_not (condP_eq (fun _ => ?_) (fun _ => ?_)) | with_reducible refine condP_not (condP_intro (fun _ => ?_) (fun _ => ?_)) | with_reducible refine condP_intro (fun _ => ?_) (fun _ => ?_))
  all_goals first | rfl | exact dno (by omega) | exact dyes (by omega) | omega | skip

def rLight (s : Rq) : Bool := decide (s.r.length ≤ 5000 ∧ s.p.length ≤ 20 ∧ mnD s.p < 300)
set_option maxRecDepth 100000 in
set_option maxHeartbeats 1000000 in
theorem light8a (s : Rq) (j : Nat) (hL : Loops Try.prog 0 (loopN Try.prog 6 0) ((I8 s 0).as 40) (.exit 0) ((I8 s j).as 40)) (q : Bool) (hq : decide (s.r.length ≤ 5000 ∧ s.p.length ≤ 20 ∧ mnD (s.p.take j) < 300) = q) : FnOK Try.prog 6 ([.d (rqD s)]) ([]) (.d (.bool q)) ([]) := by
  refine fnOK_wp (p := (AV.ptr (1008 : Nat) (0 : Nat) = AV.ptr (1008 : Nat) (0 : Nat)) ∧ ((AV.d (D.int IntKind.i64 (0 : Int)) = AV.d (D.int IntKind.i64 (↑(mnD (List.take (0 : Nat) s.p)) : Int))) ∧ ((AV.d (D.int IntKind.i64 (0 : Int)) = AV.d (D.int IntKind.i64 (0 : Int))) ∧ ((Ob.box [AV.d (D.int IntKind.i64 s.b), AV.d (D.str s.r), AV.d (D.sl (List.map ptD s.p))] = Ob.box [AV.d (D.int IntKind.i64 s.b), AV.d (D.str s.r), AV.d (D.sl (List.map ptD s.p))]) ∧ ((LoopsS Try.prog (0 : Nat) (loopN Try.prog (6 : Nat) (0 : Nat)) (I8 s (0 : Nat)) (Exit.exit (0 : Nat)) (I8 s j) (40 : Nat)) ∧ (condP (decide ((↑s.r.length : Int) ≤ (5000 : Int))) (condP (decide ((↑(List.map ptD s.p).length : Int) ≤ (20 : Int))) ((D.bool (decide ((↑s.r.length : Int) ≤ (5000 : Int))) = D.bool true) ∧ ((D.bool (decide ((↑(List.map ptD s.p).length : Int) ≤ (20 : Int))) = D.bool true) ∧ ((AV.d (D.bool (decide ((↑(mnD (List.take j s.p)) : Int) < (300 : Int)))) = AV.d (D.bool q)) ∧ (True)))) ((D.bool (decide ((↑s.r.length : Int) ≤ (5000 : Int))) = D.bool true) ∧ ((D.bool (decide ((↑(List.map ptD s.p).length : Int) ≤ (20 : Int))) = D.bool false) ∧ ((AV.d (D.bool false) = AV.d (D.bool q)) ∧ (True))))) ((D.bool (decide ((↑s.r.length : Int) ≤ (5000 : Int))) = D.bool false) ∧ ((D.bool false = D.bool false) ∧ ((AV.d (D.bool false) = AV.d (D.bool q)) ∧ (True)))))))))) (h := {}) (subs := [⟨[], [], I8 s 0, .exit 0, I8 s j⟩]) (ws := []) (ρ := []) (by kernel_rfl) ?_
  subst hq
  simp only [List.length_map]
  repeat' (first | with_reducible exact True.intro | with_reducible refine And.intro ?_ ?_ | with_reducible refine condP_dec (fun _ => ?_) (fun _ => ?_) | with_reducible refine condP_eq (fun _ => ?_) (fun _ => ?_) | with_reducible refine condP_ne (fun _ => ?_) (fun _ => ?_) | with_reducible refine condP_not (condP_dec (fun _ => ?_) (fun _ => ?_)) | with_reducible refine condP_not (condP_eq (fun _ => ?_) (fun _ => ?_)) | with_reducible refine condP_not (condP_intro (fun _ => ?_) (fun _ => ?_)) | with_reducible refine condP_intro (fun _ => ?_) (fun _ => ?_))
  all_goals first | exact hL | rfl | exact dyes ‹_› | exact dno ‹_› | exact dyes (by omega) | exact dno (by omega) | (exfalso; omega) | (refine congrArg (fun z => AV.d (D.bool z)) ?_; first | (rw [decide_eq_decide]; omega) | (symm; rw [decide_eq_false_iff_not]; omega) | (symm; rw [decide_eq_true_iff]; omega)) | skip

theorem light8 (s : Rq) : FnOK Try.prog 6 [.d (rqD s)] [] (.d (.bool (rLight s))) [] := by
  by_cases h : s.p.length ≤ 21
  · refine light8a s s.p.length (loops_n (I := fun j => (I8 s j).as 40) (by simp) s.p.length 0 (by omega) (fun j _ hj => r8 s j (by omega) _ (get_of hj)) (q8 s)) _ ?_
    rw [List.take_length]; rfl
  · refine light8a s 21 (loops_n (I := fun j => (I8 s j).as 40) (by simp) 21 0 (by omega) (fun j _ hj => r8 s j (by omega) (s.p[j]'(by omega)) (get_of _)) (z8 s (by omega))) _ ?_
    unfold rLight
    rw [decide_eq_false (by omega), decide_eq_false (by omega)]
end Go.Proofs.Ytfacpafkldmkcaa.C12
