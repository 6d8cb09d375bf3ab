/-
laws 12: up to where, how many, whether it may be.
-/
import Derived.Test.YtfacpafkldmkcaaC12S1
set_option linter.unusedSimpArgs false
set_option linter.unusedVariables false
namespace Go.Proofs.Ytfacpafkldmkcaa.C12
open Sx Go.RowKit

def rqB (s : Rq) : Ob := .box [.d (.int .i64 s.b), .d (.str s.r), .d (.sl (s.p.map ptD))]
/-- What is in reach. -/
structure Rb (s : Rq) : Prop where
  b : -9223372036854775808 ≤ s.b ∧ s.b < 9223372036854775808
  r : s.r.length < 1000000000
  p : s.p.length < 1000000000
  d : ∀ x ∈ s.p, (-9223372036854775808 ≤ x.a ∧ x.a < 9223372036854775808) ∧ x.d.length < 1000000000
set_option maxRecDepth 100000 in
set_option maxHeartbeats 1000000 in
theorem lim26 (s : Rq) (h0 : 0 ≤ s.b) (h1 : s.b ≤ 1099511627776) (h2 : s.r.length < 1000000000) : FnOK Try.prog 41 ([.d (rqD s)]) ([]) (.d (.int .i64 (rLim s))) ([]) := by
  refine fnOK_wp (p := (AV.d (D.int IntKind.i64 (min (IntKind.i64.wrap (IntKind.i64.wrap (s.b - (↑s.r.length : Int)) + (4096 : Int))) (1099511627776 : Int))) = AV.d (D.int IntKind.i64 (rLim s))) ∧ (True)) (h := {}) (subs := []) (ws := []) (ρ := []) (by kernel_rfl) ?_
  have w1 : IntKind.i64.wrap (s.b - s.r.length) = s.b - s.r.length := by rw [IntKind.wrap_i64]; omega
  have w2 : IntKind.i64.wrap (s.b - s.r.length + 4096) = s.b - s.r.length + 4096 := by rw [IntKind.wrap_i64]; omega
  unfold rLim
  simp only [w1, w2]
  repeat' (first | with_reducible exact True.intro | with_reducible refine And.intro ?_ ?_ | with_reducible refine condP_dec (fun _ => ?_) (fun _ => ?_) | with_reducible refine condP_eq (fun _ => ?_) (fun _ => ?_) | with_reducible refine condP_ne (fun _ => ?_) (fun _ => ?_) | with_reducible refine condP_not (condP_dec (fun _ => ?_) (fun _ => ?_)) | with_reducible refine condP_not (condP_eq (fun _ => ?_) (fun _ => ?_)) | with_reducible refine condP_not (condP_intro (fun _ => ?_) (fun _ => ?_)) | with_reducible refine condP_intro (fun _ => ?_) (fun _ => ?_))
  all_goals first | rfl | (rw [Int.min_comm]; done) | skip

set_option maxRecDepth 100000 in
set_option maxHeartbeats 1000000 in
theorem lim27 (s : Rq) (h0 : 0 ≤ s.b) (h1 : s.b ≤ 1099511627776) (h2 : s.r.length < 1000000000) : FnOK Try.prog 47 ([.d (rqD s)]) ([]) (.d (.int .i64 (rLim s))) ([]) := by
  refine fnOK_wp (p := (AV.d (D.int IntKind.i64 (min (1099511627776 : Int) (IntKind.i64.wrap (IntKind.i64.wrap (s.b - (↑s.r.length : Int)) + (4096 : Int))))) = AV.d (D.int IntKind.i64 (rLim s))) ∧ (True)) (h := {}) (subs := []) (ws := []) (ρ := []) (by kernel_rfl) ?_
  have w1 : IntKind.i64.wrap (s.b - s.r.length) = s.b - s.r.length := by rw [IntKind.wrap_i64]; omega
  have w2 : IntKind.i64.wrap (s.b - s.r.length + 4096) = s.b - s.r.length + 4096 := by rw [IntKind.wrap_i64]; omega
  unfold rLim
  simp only [w1, w2]
  repeat' (first | with_reducible exact True.intro | with_reducible refine And.intro ?_ ?_ | with_reducible refine condP_dec (fun _ => ?_) (fun _ => ?_) | with_reducible refine condP_eq (fun _ => ?_) (fun _ => ?_) | with_reducible refine condP_ne (fun _ => ?_) (fun _ => ?_) | with_reducible refine condP_not (condP_dec (fun _ => ?_) (fun _ => ?_)) | with_reducible refine condP_not (condP_eq (fun _ => ?_) (fun _ => ?_)) | with_reducible refine condP_not (condP_intro (fun _ => ?_) (fun _ => ?_)) | with_reducible refine condP_intro (fun _ => ?_) (fun _ => ?_))
  all_goals first | rfl | (rw [Int.min_comm]; done) | skip

/-! ### Held -/
def I28 (s : Rq) (j : Nat) : St := ⟨[(1, .ptr 0 0), (3, .d (.int .i64 ((s.r.length + sumD (s.p.take j) : Nat) : Int))), (10, .d (.sl (s.p.map ptD))), (11, .d (.int .i64 s.p.length)), (12, .d (.int .i64 j))], [(0, rqB s)]⟩
def I29 (s : Rq) (j : Nat) : St := ⟨[(1, .ptr 0 0), (3, .d (.int .i64 ((s.r.length + sumD (s.p.take j) : Nat) : Int))), (4, .d (.int .i64 j))], [(0, rqB s)]⟩
set_option maxRecDepth 100000 in
set_option maxHeartbeats 1000000 in
theorem r28 (s : Rq) (hh : rHeld s < 1000000000) (hl : s.p.length < 1000000000) (j : Nat) (x : Pt) (hn : s.p[j]? = some x) : Runs Try.prog 0 (loopN Try.prog 42 0) (St.as (I28 s j) 23) (.normal) (St.as (I28 s (j+1)) 23) := by
  refine round_wp (p := condP (decide ((↑j : Int) < (↑s.p.length : Int))) (((0 : Int) ≤ (↑j : Int)) ∧ (((List.map ptD s.p)[(↑j : Int).toNat]? = some (D.agg [D.int IntKind.i64 x.a, D.str x.d])) ∧ ((AV.ptr (0 : Nat) (0 : Nat) = AV.ptr (0 : Nat) (0 : Nat)) ∧ ((AV.d (D.int IntKind.i64 (IntKind.i64.wrap ((↑(s.r.length + sumD (List.take j s.p)) : Int) + (↑x.d.length : Int)))) = AV.d (D.int IntKind.i64 (↑(s.r.length + sumD (List.take (j + (1 : Nat)) s.p)) : Int))) ∧ ((AV.d (D.sl (List.map ptD s.p)) = AV.d (D.sl (List.map ptD s.p))) ∧ ((AV.d (D.int IntKind.i64 (↑s.p.length : Int)) = AV.d (D.int IntKind.i64 (↑s.p.length : Int))) ∧ ((AV.d (D.int IntKind.i64 (IntKind.i64.wrap ((↑j : Int) + (1 : Int)))) = AV.d (D.int IntKind.i64 (↑(j + (1 : Nat)) : Int))) ∧ ((Ob.box [AV.d (D.int IntKind.i64 s.b), AV.d (D.str s.r), AV.d (D.sl (List.map ptD s.p))] = Ob.box [AV.d (D.int IntKind.i64 s.b), AV.d (D.str s.r), AV.d (D.sl (List.map ptD s.p))]) ∧ (True))))))))) (False)) (h := {els := [(10, .el (ptD x))]}) (subs := []) (ws := []) (ρ := []) (by kernel_rfl) ?_
  have hj := get_lt hn
  have hs := sumD_take hn
  have hle := sumD_le (l := s.p) (j + 1)
  unfold rHeld at hh
  have hi := inc_i64 (j := j) (by omega)
  have hw : IntKind.i64.wrap (((s.r.length + sumD (s.p.take j) : Nat) : Int) + (x.d.length : Int)) = ((s.r.length + sumD (s.p.take (j + 1)) : Nat) : Int) := by rw [IntKind.wrap_i64, hs]; omega
  rw [hi]
  simp only [List.length_map, hw]
  refine condP_t (by rw [decide_eq_true_eq]; omega) ?_
  repeat' (first | with_reducible exact True.intro | with_reducible refine And.intro ?_ ?_ | with_reducible refine condP_dec (fun _ => ?_) (fun _ => ?_) | with_reducible refine condP_eq (fun _ => ?_) (fun _ => ?_) | with_reducible refine condP_ne (fun _ => ?_) (fun _ => ?_) | with_reducible refine condP_not (condP_dec (fun _ => ?_) (fun _ => ?_)) | with_reducible refine condP_not (condP_eq (fun _ => ?_) (fun _ => ?_)) | with_reducible refine condP_not (condP_intro (fun _ => ?_) (fun _ => ?_)) | with_reducible refine condP_intro (fun _ => ?_) (fun _ => ?_))
  all_goals first | exact el_map hn rfl | rfl | omega | skip

set_option maxRecDepth 100000 in
set_option maxHeartbeats 1000000 in
theorem q28 (s : Rq) : Runs Try.prog 0 (loopN Try.prog 42 0) (St.as (I28 s s.p.length) 23) (.exit 0) (St.as (I28 s s.p.length) 23) := by
  refine round_wp (p := condP (decide ((↑s.p.length : Int) < (↑s.p.length : Int))) (False) ((AV.ptr (0 : Nat) (0 : Nat) = AV.ptr (0 : Nat) (0 : Nat)) ∧ ((AV.d (D.int IntKind.i64 (↑(s.r.length + sumD (List.take s.p.length s.p)) : Int)) = AV.d (D.int IntKind.i64 (↑(s.r.length + sumD (List.take s.p.length s.p)) : Int))) ∧ ((AV.d (D.sl (List.map ptD s.p)) = AV.d (D.sl (List.map ptD s.p))) ∧ ((AV.d (D.int IntKind.i64 (↑s.p.length : Int)) = AV.d (D.int IntKind.i64 (↑s.p.length : Int))) ∧ ((AV.d (D.int IntKind.i64 (↑s.p.length : Int)) = AV.d (D.int IntKind.i64 (↑s.p.length : Int))) ∧ ((Ob.box [AV.d (D.int IntKind.i64 s.b), AV.d (D.str s.r), AV.d (D.sl (List.map ptD s.p))] = Ob.box [AV.d (D.int IntKind.i64 s.b), AV.d (D.str s.r), AV.d (D.sl (List.map ptD s.p))]) ∧ (True)))))))) (h := {}) (subs := []) (ws := []) (ρ := []) (by kernel_rfl) ?_
  repeat' (first | with_reducible exact True.intro | with_reducible refine And.intro ?_ ?_ | with_reducible refine condP_dec (fun _ => ?_) (fun _ => ?_) | with_reducible refine condP_eq (fun _ => ?_) (fun _ => ?_) | with_reducible refine condP_ne (fun _ => ?_) (fun _ => ?_) | with_reducible refine condP_not (condP_dec (fun _ => ?_) (fun _ => ?_)) | with_reducible refine condP_not (condP_eq (fun _ => ?_) (fun _ => ?_)) | with_reducible refine condP_not (condP_intro (fun _ => ?_) (fun _ => ?_)) | with_reducible refine condP_intro (fun _ => ?_) (fun _ => ?_))
  all_goals (try simp only [List.length_map, AV.d.injEq, D.int.injEq, D.bool.injEq, D.str.injEq, D.sl.injEq, true_and, and_true, decide_eq_true_eq, decide_eq_false_iff_not, decide_eq_decide])
  all_goals (try simp only [List.length_map] at *)
  all_goals first | rfl | omega

set_option maxRecDepth 100000 in
set_option maxHeartbeats 1000000 in
theorem held28 (s : Rq) (hh : rHeld s < 1000000000) (hl : s.p.length < 1000000000) : FnOK Try.prog 42 ([.d (rqD s)]) ([]) (.d (.int .i64 (rHeld s))) ([]) := by
  refine fnOK_wp (p := (AV.ptr (1008 : Nat) (0 : Nat) = AV.ptr (1008 : Nat) (0 : Nat)) ∧ ((AV.d (D.int IntKind.i64 (↑s.r.length : Int)) = AV.d (D.int IntKind.i64 (↑(s.r.length + sumD (List.take (0 : Nat) s.p)) : Int))) ∧ ((AV.d (D.sl (List.map ptD s.p)) = AV.d (D.sl (List.map ptD s.p))) ∧ ((AV.d (D.int IntKind.i64 (↑(List.map ptD s.p).length : Int)) = AV.d (D.int IntKind.i64 (↑s.p.length : Int))) ∧ ((AV.d (D.int IntKind.i64 (0 : Int)) = AV.d (D.int IntKind.i64 (0 : Int))) ∧ ((Ob.box [AV.d (D.int IntKind.i64 s.b), AV.d (D.str s.r), AV.d (D.sl (List.map ptD s.p))] = Ob.box [AV.d (D.int IntKind.i64 s.b), AV.d (D.str s.r), AV.d (D.sl (List.map ptD s.p))]) ∧ ((LoopsS Try.prog (0 : Nat) (loopN Try.prog (42 : Nat) (0 : Nat)) (I28 s (0 : Nat)) (Exit.exit (0 : Nat)) (I28 s s.p.length) (23 : Nat)) ∧ ((AV.d (D.int IntKind.i64 (↑(s.r.length + sumD (List.take s.p.length s.p)) : Int)) = AV.d (D.int IntKind.i64 (↑(rHeld s) : Int))) ∧ (True))))))))) (h := {}) (subs := [⟨[], [], I28 s 0, .exit 0, I28 s s.p.length⟩]) (ws := []) (ρ := []) (by kernel_rfl) ?_
  have h := loops_n (P := Try.prog) (k := 0) (c := loopN Try.prog 42 0) (e := .exit 0) (I := fun j => (I28 s j).as 23) (by simp) s.p.length 0 (by omega) (fun j _ hj => r28 s hh hl j _ (get_of hj)) (q28 s)
  simp only [List.length_map]
  repeat' (first | with_reducible exact True.intro | with_reducible refine And.intro ?_ ?_ | with_reducible refine condP_dec (fun _ => ?_) (fun _ => ?_) | with_reducible refine condP_eq (fun _ => ?_) (fun _ => ?_) | with_reducible refine condP_ne (fun _ => ?_) (fun _ => ?_) | with_reducible refine condP_not (condP_dec (fun _ => ?_) (fun _ => ?_)) | with_reducible refine condP_not (condP_eq (fun _ => ?_) (fun _ => ?_)) | with_reducible refine condP_not (condP_intro (fun _ => ?_) (fun _ => ?_)) | with_reducible refine condP_intro (fun _ => ?_) (fun _ => ?_))
  all_goals first | exact h | rfl | (rw [List.take_length]; rfl) | skip

/-! ### Check -/
def I17 (s : Rq) (e : Int) (j : Nat) : St := ⟨[(1, .ptr 0 0), (3, .d (.int .i64 e)), (4, .d (.int .i64 (rLim s))), (29, .d (.sl (s.p.map ptD))), (30, .d (.int .i64 s.p.length)), (31, .d (.int .i64 j))], [(0, rqB s)]⟩
def I18 (s : Rq) (e : Int) (j : Nat) : St := ⟨[(1, .ptr 0 0), (3, .d (.int .i64 e)), (4, .d (.int .i64 j))], [(0, rqB s)]⟩
def O17 (n : Int) : St := ⟨[(2, .d (.int .i64 n))], []⟩
set_option maxRecDepth 100000 in
set_option maxHeartbeats 1000000 in
theorem r17 (s : Rq) (hb : Rb s) (e : Int) (e0 : 0 ≤ e) (lim : Int) (hlim : rLim s = lim) (l1 : lim ≤ 1099511627776) (j : Nat) (x : Pt) (hn : s.p[j]? = some x) (hx : pBad lim e x = false) (kL : True) : Runs Try.prog 0 (loopN Try.prog 32 0) (St.as (I17 s e j) 63) (.normal) (St.as (I17 s (pEnd x) (j+1)) 63) := by
  refine round_wp (p := condP (decide ((↑j : Int) < (↑s.p.length : Int))) (((0 : Int) ≤ (↑j : Int)) ∧ (((List.map ptD s.p)[(↑j : Int).toNat]? = some (D.agg [D.int IntKind.i64 x.a, D.str x.d])) ∧ ((D.bool (decide (x.a ≤ e)) = D.bool false) ∧ ((D.bool false = D.bool false) ∧ ((D.bool (x.d == []) = D.bool false) ∧ ((D.bool false = D.bool false) ∧ ((D.bool (decide (x.a > rLim s)) = D.bool false) ∧ ((D.bool false = D.bool false) ∧ ((D.bool (decide ((↑x.d.length : Int) > IntKind.i64.wrap (rLim s - x.a))) = D.bool false) ∧ ((FnOK Try.prog (44 : Nat) [AV.d (D.agg [D.int IntKind.i64 x.a, D.str x.d])] [] (AV.d (D.int IntKind.i64 (pEnd x))) []) ∧ ((AV.ptr (0 : Nat) (0 : Nat) = AV.ptr (0 : Nat) (0 : Nat)) ∧ ((AV.d (D.int IntKind.i64 (pEnd x)) = AV.d (D.int IntKind.i64 (pEnd x))) ∧ ((AV.d (D.int IntKind.i64 (rLim s)) = AV.d (D.int IntKind.i64 (rLim s))) ∧ ((AV.d (D.sl (List.map ptD s.p)) = AV.d (D.sl (List.map ptD s.p))) ∧ ((AV.d (D.int IntKind.i64 (↑s.p.length : Int)) = AV.d (D.int IntKind.i64 (↑s.p.length : Int))) ∧ ((AV.d (D.int IntKind.i64 (IntKind.i64.wrap ((↑j : Int) + (1 : Int)))) = AV.d (D.int IntKind.i64 (↑(j + (1 : Nat)) : Int))) ∧ ((Ob.box [AV.d (D.int IntKind.i64 s.b), AV.d (D.str s.r), AV.d (D.sl (List.map ptD s.p))] = Ob.box [AV.d (D.int IntKind.i64 s.b), AV.d (D.str s.r), AV.d (D.sl (List.map ptD s.p))]) ∧ (True)))))))))))))))))) (False)) (h := {els := [(29, .el (ptD x))], G := [(44, gAns (.d (.int .i64 (pEnd x))))], H := [(7, [(3, .val (.bool false)), (7, .val (.bool false)), (13, .val (.bool false)), (23, .val (.bool false))])]}) (subs := []) (ws := []) (ρ := []) (by kernel_rfl) ?_
  have hj := get_lt hn
  have hp := hb.p
  have hx2 := hb.d x (get_mem hn)
  have hi := inc_i64 (j := j) (by omega)
  rw [hi]
  unfold pBad at hx
  simp only [Bool.or_eq_false_iff, decide_eq_false_iff_not] at hx
  obtain ⟨g1, g2, g3, g4⟩ := hx
  have hw : IntKind.i64.wrap (lim - x.a) = lim - x.a := by rw [IntKind.wrap_i64]; omega
  have hw2 : IntKind.i64.wrap (pEnd x) = pEnd x := by unfold pEnd; rw [IntKind.wrap_i64]; omega
  have hw3 : IntKind.i64.wrap (x.a + x.d.length) = pEnd x := hw2
  have k1 := end33 x hw2
  simp only [List.length_map, hlim, hw, hw3]
  refine condP_t (by rw [decide_eq_true_eq]; omega) ?_
  repeat' (first | with_reducible exact True.intro | with_reducible refine And.intro ?_ ?_ | with_reducible refine condP_dec (fun _ => ?_) (fun _ => ?_) | with_reducible refine condP_eq (fun _ => ?_) (fun _ => ?_) | with_reducible refine condP_ne (fun _ => ?_) (fun _ => ?_) | with_reducible refine condP_not (condP_dec (fun _ => ?_) (fun _ => ?_)) | with_reducible refine condP_not (condP_eq (fun _ => ?_) (fun _ => ?_)) | with_reducible refine condP_not (condP_intro (fun _ => ?_) (fun _ => ?_)) | with_reducible refine condP_intro (fun _ => ?_) (fun _ => ?_))
  all_goals first | exact k1 | exact kL | exact el_map hn rfl | rfl | omega | exact dno (by omega) | exact dyes (by omega) | (refine congrArg D.bool ?_; simpa using g2) | skip

set_option maxRecDepth 100000 in
set_option maxHeartbeats 1000000 in
theorem r18 (s : Rq) (hb : Rb s) (e : Int) (e0 : 0 ≤ e) (lim : Int) (hlim : rLim s = lim) (l1 : lim ≤ 1099511627776) (j : Nat) (x : Pt) (hn : s.p[j]? = some x) (hx : pBad lim e x = false) (kL : FnOK Try.prog 47 [.d (rqD s)] [] (.d (.int .i64 lim)) []) : Runs Try.prog 0 (loopN Try.prog 33 0) (St.as (I18 s e j) 75) (.normal) (St.as (I18 s (pEnd x) (j+1)) 75) := by
  refine round_wp (p := condP (decide ((↑j : Int) < (↑(List.map ptD s.p).length : Int))) (((0 : Int) ≤ (↑j : Int)) ∧ (((List.map ptD s.p)[(↑j : Int).toNat]? = some (D.agg [D.int IntKind.i64 x.a, D.str x.d])) ∧ ((D.bool (decide (x.a ≤ e)) = D.bool false) ∧ ((D.bool false = D.bool false) ∧ ((D.bool (x.d == []) = D.bool false) ∧ ((D.bool false = D.bool false) ∧ ((FnOK Try.prog (47 : Nat) [AV.d (D.agg [D.int IntKind.i64 s.b, D.str s.r, D.sl (List.map ptD s.p)])] [] (AV.d (D.int IntKind.i64 lim)) []) ∧ ((D.bool (decide (x.a > lim)) = D.bool false) ∧ ((D.bool false = D.bool false) ∧ ((FnOK Try.prog (47 : Nat) [AV.d (D.agg [D.int IntKind.i64 s.b, D.str s.r, D.sl (List.map ptD s.p)])] [] (AV.d (D.int IntKind.i64 lim)) []) ∧ ((D.bool (decide ((↑x.d.length : Int) > IntKind.i64.wrap (lim - x.a))) = D.bool false) ∧ ((AV.ptr (0 : Nat) (0 : Nat) = AV.ptr (0 : Nat) (0 : Nat)) ∧ ((AV.d (D.int IntKind.i64 (IntKind.i64.wrap (x.a + (↑x.d.length : Int)))) = AV.d (D.int IntKind.i64 (pEnd x))) ∧ ((AV.d (D.int IntKind.i64 (IntKind.i64.wrap ((↑j : Int) + (1 : Int)))) = AV.d (D.int IntKind.i64 (↑(j + (1 : Nat)) : Int))) ∧ ((Ob.box [AV.d (D.int IntKind.i64 s.b), AV.d (D.str s.r), AV.d (D.sl (List.map ptD s.p))] = Ob.box [AV.d (D.int IntKind.i64 s.b), AV.d (D.str s.r), AV.d (D.sl (List.map ptD s.p))]) ∧ (True)))))))))))))))) (False)) (h := {els := [(38, .el (ptD x))], G := [(47, gAns (.d (.int .i64 lim)))], H := [(8, [(3, .val (.bool false)), (7, .val (.bool false)), (14, .val (.bool false)), (25, .val (.bool false))])]}) (subs := []) (ws := []) (ρ := []) (by kernel_rfl) ?_
  have hj := get_lt hn
  have hp := hb.p
  have hx2 := hb.d x (get_mem hn)
  have hi := inc_i64 (j := j) (by omega)
  rw [hi]
  unfold pBad at hx
  simp only [Bool.or_eq_false_iff, decide_eq_false_iff_not] at hx
  obtain ⟨g1, g2, g3, g4⟩ := hx
  have hw : IntKind.i64.wrap (lim - x.a) = lim - x.a := by rw [IntKind.wrap_i64]; omega
  have hw2 : IntKind.i64.wrap (pEnd x) = pEnd x := by unfold pEnd; rw [IntKind.wrap_i64]; omega
  have hw3 : IntKind.i64.wrap (x.a + x.d.length) = pEnd x := hw2
  have k1 := end33 x hw2
  simp only [List.length_map, hlim, hw, hw3]
  refine condP_t (by rw [decide_eq_true_eq]; omega) ?_
  repeat' (first | with_reducible exact True.intro | with_reducible refine And.intro ?_ ?_ | with_reducible refine condP_dec (fun _ => ?_) (fun _ => ?_) | with_reducible refine condP_eq (fun _ => ?_) (fun _ => ?_) | with_reducible refine condP_ne (fun _ => ?_) (fun _ => ?_) | with_reducible refine condP_not (condP_dec (fun _ => ?_) (fun _ => ?_)) | with_reducible refine condP_not (condP_eq (fun _ => ?_) (fun _ => ?_)) | with_reducible refine condP_not (condP_intro (fun _ => ?_) (fun _ => ?_)) | with_reducible refine condP_intro (fun _ => ?_) (fun _ => ?_))
  all_goals first | exact k1 | exact kL | exact el_map hn rfl | rfl | omega | exact dno (by omega) | exact dyes (by omega) | (refine congrArg D.bool ?_; simpa using g2) | skip

set_option maxRecDepth 100000 in
set_option maxHeartbeats 1000000 in
theorem e17 (s : Rq) (hb : Rb s) (e : Int) (e0 : 0 ≤ e) (lim : Int) (hlim : rLim s = lim) (l1 : lim ≤ 1099511627776) (j : Nat) (x : Pt) (hn : s.p[j]? = some x) (hx : pBad lim e x = true) (kL : True) : Runs Try.prog 0 (loopN Try.prog 32 0) (St.as (I17 s e j) 63) (.ret) (St.as (O17 10) 63) := by
  refine round_wp (p := condP (decide ((↑j : Int) < (↑s.p.length : Int))) (((0 : Int) ≤ (↑j : Int)) ∧ (((List.map ptD s.p)[(↑j : Int).toNat]? = some (D.agg [D.int IntKind.i64 x.a, D.str x.d])) ∧ (condP (decide (x.a ≤ e)) ((D.bool (decide (x.a ≤ e)) = D.bool true) ∧ ((D.bool true = D.bool true) ∧ ((D.bool true = D.bool true) ∧ ((AV.d (D.int IntKind.i64 (10 : Int)) = AV.d (D.int IntKind.i64 (10 : Int))) ∧ (True))))) (condP (x.d == []) ((D.bool (decide (x.a ≤ e)) = D.bool false) ∧ ((D.bool (x.d == []) = D.bool true) ∧ ((D.bool true = D.bool true) ∧ ((AV.d (D.int IntKind.i64 (10 : Int)) = AV.d (D.int IntKind.i64 (10 : Int))) ∧ (True))))) (condP (decide (x.a > rLim s)) ((D.bool (decide (x.a ≤ e)) = D.bool false) ∧ ((D.bool (x.d == []) = D.bool false) ∧ ((D.bool (decide (x.a > rLim s)) = D.bool true) ∧ ((AV.d (D.int IntKind.i64 (10 : Int)) = AV.d (D.int IntKind.i64 (10 : Int))) ∧ (True))))) ((D.bool (decide (x.a ≤ e)) = D.bool false) ∧ ((D.bool (x.d == []) = D.bool false) ∧ ((D.bool (decide (x.a > rLim s)) = D.bool false) ∧ (condP (decide ((↑x.d.length : Int) > IntKind.i64.wrap (rLim s - x.a))) ((AV.d (D.int IntKind.i64 (10 : Int)) = AV.d (D.int IntKind.i64 (10 : Int))) ∧ (True)) ((FnOK Try.prog (44 : Nat) [AV.d (D.agg [D.int IntKind.i64 x.a, D.str x.d])] [] (AV.d (D.int IntKind.i64 (0 : Int))) []) ∧ (False))))))))))) (False)) (h := {els := [(29, .el (ptD x))], G := [(44, gAns (.d (.int .i64 0)))]}) (subs := []) (ws := []) (ρ := []) (by kernel_rfl) ?_
  have hj := get_lt hn
  have hp := hb.p
  have hx2 := hb.d x (get_mem hn)
  unfold pBad at hx
  simp only [List.length_map, hlim]
  refine condP_t (by rw [decide_eq_true_eq]; omega) ?_
  by_cases g1 : x.a ≤ e
  · repeat' (first | with_reducible exact True.intro | with_reducible refine And.intro ?_ ?_ | with_reducible refine condP_dec (fun _ => ?_) (fun _ => ?_) | with_reducible refine condP_eq (fun _ => ?_) (fun _ => ?_) | with_reducible refine condP_ne (fun _ => ?_) (fun _ => ?_) | with_reducible refine condP_not (condP_dec (fun _ => ?_) (fun _ => ?_)) | with_reducible refine condP_not (condP_eq (fun _ => ?_) (fun _ => ?_)) | with_reducible refine condP_not (condP_intro (fun _ => ?_) (fun _ => ?_)) | with_reducible refine condP_intro (fun _ => ?_) (fun _ => ?_))
    all_goals first | exact kL | exact el_map hn rfl | rfl | omega | exact dno (by omega) | exact dyes (by omega) | (refine congrArg D.bool ?_; assumption) | (exfalso; omega) | (exfalso; simp_all; done) | skip
  · by_cases g2 : x.d = []
    · repeat' (first | with_reducible exact True.intro | with_reducible refine And.intro ?_ ?_ | with_reducible refine condP_dec (fun _ => ?_) (fun _ => ?_) | with_reducible refine condP_eq (fun _ => ?_) (fun _ => ?_) | with_reducible refine condP_ne (fun _ => ?_) (fun _ => ?_) | with_reducible refine condP_not (condP_dec (fun _ => ?_) (fun _ => ?_)) | with_reducible refine condP_not (condP_eq (fun _ => ?_) (fun _ => ?_)) | with_reducible refine condP_not (condP_intro (fun _ => ?_) (fun _ => ?_)) | with_reducible refine condP_intro (fun _ => ?_) (fun _ => ?_))
      all_goals first | exact kL | exact el_map hn rfl | rfl | omega | exact dno (by omega) | exact dyes (by omega) | (refine congrArg D.bool ?_; assumption) | (exfalso; omega) | (exfalso; simp_all; done) | skip
    · by_cases g3 : x.a > lim
      · repeat' (first | with_reducible exact True.intro | with_reducible refine And.intro ?_ ?_ | with_reducible refine condP_dec (fun _ => ?_) (fun _ => ?_) | with_reducible refine condP_eq (fun _ => ?_) (fun _ => ?_) | with_reducible refine condP_ne (fun _ => ?_) (fun _ => ?_) | with_reducible refine condP_not (condP_dec (fun _ => ?_) (fun _ => ?_)) | with_reducible refine condP_not (condP_eq (fun _ => ?_) (fun _ => ?_)) | with_reducible refine condP_not (condP_intro (fun _ => ?_) (fun _ => ?_)) | with_reducible refine condP_intro (fun _ => ?_) (fun _ => ?_))
        all_goals first | exact kL | exact el_map hn rfl | rfl | omega | exact dno (by omega) | exact dyes (by omega) | (refine congrArg D.bool ?_; assumption) | (exfalso; omega) | (exfalso; simp_all; done) | skip
      · have hw : IntKind.i64.wrap (lim - x.a) = lim - x.a := by rw [IntKind.wrap_i64]; omega
        simp only [hw]
        repeat' (first | with_reducible exact True.intro | with_reducible refine And.intro ?_ ?_ | with_reducible refine condP_dec (fun _ => ?_) (fun _ => ?_) | with_reducible refine condP_eq (fun _ => ?_) (fun _ => ?_) | with_reducible refine condP_ne (fun _ => ?_) (fun _ => ?_) | with_reducible refine condP_not (condP_dec (fun _ => ?_) (fun _ => ?_)) | with_reducible refine condP_not (condP_eq (fun _ => ?_) (fun _ => ?_)) | with_reducible refine condP_not (condP_intro (fun _ => ?_) (fun _ => ?_)) | with_reducible refine condP_intro (fun _ => ?_) (fun _ => ?_))
        all_goals first | exact kL | exact el_map hn rfl | rfl | omega | exact dno (by omega) | exact dyes (by omega) | (refine congrArg D.bool ?_; assumption) | (exfalso; omega) | (exfalso; simp_all; omega) | (exfalso; simp_all; done) | skip

set_option maxRecDepth 100000 in
set_option maxHeartbeats 1000000 in
theorem e18 (s : Rq) (hb : Rb s) (e : Int) (e0 : 0 ≤ e) (lim : Int) (hlim : rLim s = lim) (l1 : lim ≤ 1099511627776) (j : Nat) (x : Pt) (hn : s.p[j]? = some x) (hx : pBad lim e x = true) (kL : FnOK Try.prog 47 [.d (rqD s)] [] (.d (.int .i64 lim)) []) : Runs Try.prog 0 (loopN Try.prog 33 0) (St.as (I18 s e j) 75) (.ret) (St.as (O17 10) 75) := by
  refine round_wp (p := condP (decide ((↑j : Int) < (↑(List.map ptD s.p).length : Int))) (((0 : Int) ≤ (↑j : Int)) ∧ (((List.map ptD s.p)[(↑j : Int).toNat]? = some (D.agg [D.int IntKind.i64 x.a, D.str x.d])) ∧ (condP (decide (x.a ≤ e)) ((D.bool (decide (x.a ≤ e)) = D.bool true) ∧ ((D.bool true = D.bool true) ∧ ((D.bool true = D.bool true) ∧ ((AV.d (D.int IntKind.i64 (10 : Int)) = AV.d (D.int IntKind.i64 (10 : Int))) ∧ (True))))) (condP (x.d == []) ((D.bool (decide (x.a ≤ e)) = D.bool false) ∧ ((D.bool (x.d == []) = D.bool true) ∧ ((D.bool true = D.bool true) ∧ ((AV.d (D.int IntKind.i64 (10 : Int)) = AV.d (D.int IntKind.i64 (10 : Int))) ∧ (True))))) (condP (decide (x.a > lim)) ((D.bool (decide (x.a ≤ e)) = D.bool false) ∧ ((D.bool (x.d == []) = D.bool false) ∧ ((FnOK Try.prog (47 : Nat) [AV.d (D.agg [D.int IntKind.i64 s.b, D.str s.r, D.sl (List.map ptD s.p)])] [] (AV.d (D.int IntKind.i64 lim)) []) ∧ ((D.bool (decide (x.a > lim)) = D.bool true) ∧ ((AV.d (D.int IntKind.i64 (10 : Int)) = AV.d (D.int IntKind.i64 (10 : Int))) ∧ (True)))))) ((D.bool (decide (x.a ≤ e)) = D.bool false) ∧ ((D.bool (x.d == []) = D.bool false) ∧ ((FnOK Try.prog (47 : Nat) [AV.d (D.agg [D.int IntKind.i64 s.b, D.str s.r, D.sl (List.map ptD s.p)])] [] (AV.d (D.int IntKind.i64 lim)) []) ∧ ((D.bool (decide (x.a > lim)) = D.bool false) ∧ ((FnOK Try.prog (47 : Nat) [AV.d (D.agg [D.int IntKind.i64 s.b, D.str s.r, D.sl (List.map ptD s.p)])] [] (AV.d (D.int IntKind.i64 lim)) []) ∧ (condP (decide ((↑x.d.length : Int) > IntKind.i64.wrap (lim - x.a))) ((AV.d (D.int IntKind.i64 (10 : Int)) = AV.d (D.int IntKind.i64 (10 : Int))) ∧ (True)) (False)))))))))))) (False)) (h := {els := [(38, .el (ptD x))], G := [(47, gAns (.d (.int .i64 lim)))]}) (subs := []) (ws := []) (ρ := []) (by kernel_rfl) ?_
  have hj := get_lt hn
  have hp := hb.p
  have hx2 := hb.d x (get_mem hn)
  unfold pBad at hx
  simp only [List.length_map, hlim]
  refine condP_t (by rw [decide_eq_true_eq]; omega) ?_
  by_cases g1 : x.a ≤ e
  · repeat' (first | with_reducible exact True.intro | with_reducible refine And.intro ?_ ?_ | with_reducible refine condP_dec (fun _ => ?_) (fun _ => ?_) | with_reducible refine condP_eq (fun _ => ?_) (fun _ => ?_) | with_reducible refine condP_ne (fun _ => ?_) (fun _ => ?_) | with_reducible refine condP_not (condP_dec (fun _ => ?_) (fun _ => ?_)) | with_reducible refine condP_not (condP_eq (fun _ => ?_) (fun _ => ?_)) | with_reducible refine condP_not (condP_intro (fun _ => ?_) (fun _ => ?_)) | with_reducible refine condP_intro (fun _ => ?_) (fun _ => ?_))
    all_goals first | exact kL | exact el_map hn rfl | rfl | omega | exact dno (by omega) | exact dyes (by omega) | (refine congrArg D.bool ?_; assumption) | (exfalso; omega) | (exfalso; simp_all; done) | skip
  · by_cases g2 : x.d = []
    · repeat' (first | with_reducible exact True.intro | with_reducible refine And.intro ?_ ?_ | with_reducible refine condP_dec (fun _ => ?_) (fun _ => ?_) | with_reducible refine condP_eq (fun _ => ?_) (fun _ => ?_) | with_reducible refine condP_ne (fun _ => ?_) (fun _ => ?_) | with_reducible refine condP_not (condP_dec (fun _ => ?_) (fun _ => ?_)) | with_reducible refine condP_not (condP_eq (fun _ => ?_) (fun _ => ?_)) | with_reducible refine condP_not (condP_intro (fun _ => ?_) (fun _ => ?_)) | with_reducible refine condP_intro (fun _ => ?_) (fun _ => ?_))
      all_goals first | exact kL | exact el_map hn rfl | rfl | omega | exact dno (by omega) | exact dyes (by omega) | (refine congrArg D.bool ?_; assumption) | (exfalso; omega) | (exfalso; simp_all; done) | skip
    · by_cases g3 : x.a > lim
      · repeat' (first | with_reducible exact True.intro | with_reducible refine And.intro ?_ ?_ | with_reducible refine condP_dec (fun _ => ?_) (fun _ => ?_) | with_reducible refine condP_eq (fun _ => ?_) (fun _ => ?_) | with_reducible refine condP_ne (fun _ => ?_) (fun _ => ?_) | with_reducible refine condP_not (condP_dec (fun _ => ?_) (fun _ => ?_)) | with_reducible refine condP_not (condP_eq (fun _ => ?_) (fun _ => ?_)) | with_reducible refine condP_not (condP_intro (fun _ => ?_) (fun _ => ?_)) | with_reducible refine condP_intro (fun _ => ?_) (fun _ => ?_))
        all_goals first | exact kL | exact el_map hn rfl | rfl | omega | exact dno (by omega) | exact dyes (by omega) | (refine congrArg D.bool ?_; assumption) | (exfalso; omega) | (exfalso; simp_all; done) | skip
      · have hw : IntKind.i64.wrap (lim - x.a) = lim - x.a := by rw [IntKind.wrap_i64]; omega
        simp only [hw]
        repeat' (first | with_reducible exact True.intro | with_reducible refine And.intro ?_ ?_ | with_reducible refine condP_dec (fun _ => ?_) (fun _ => ?_) | with_reducible refine condP_eq (fun _ => ?_) (fun _ => ?_) | with_reducible refine condP_ne (fun _ => ?_) (fun _ => ?_) | with_reducible refine condP_not (condP_dec (fun _ => ?_) (fun _ => ?_)) | with_reducible refine condP_not (condP_eq (fun _ => ?_) (fun _ => ?_)) | with_reducible refine condP_not (condP_intro (fun _ => ?_) (fun _ => ?_)) | with_reducible refine condP_intro (fun _ => ?_) (fun _ => ?_))
        all_goals first | exact kL | exact el_map hn rfl | rfl | omega | exact dno (by omega) | exact dyes (by omega) | (refine congrArg D.bool ?_; assumption) | (exfalso; omega) | (exfalso; simp_all; omega) | (exfalso; simp_all; done) | skip

set_option maxRecDepth 100000 in
set_option maxHeartbeats 1000000 in
theorem q17 (s : Rq) (e : Int) : Runs Try.prog 0 (loopN Try.prog 32 0) (St.as (I17 s e s.p.length) 63) (.exit 0) (St.as (I17 s e s.p.length) 63) := by
  refine round_wp (p := condP (decide ((↑s.p.length : Int) < (↑s.p.length : Int))) (False) ((AV.ptr (0 : Nat) (0 : Nat) = AV.ptr (0 : Nat) (0 : Nat)) ∧ ((AV.d (D.int IntKind.i64 e) = AV.d (D.int IntKind.i64 e)) ∧ ((AV.d (D.int IntKind.i64 (rLim s)) = AV.d (D.int IntKind.i64 (rLim s))) ∧ ((AV.d (D.sl (List.map ptD s.p)) = AV.d (D.sl (List.map ptD s.p))) ∧ ((AV.d (D.int IntKind.i64 (↑s.p.length : Int)) = AV.d (D.int IntKind.i64 (↑s.p.length : Int))) ∧ ((AV.d (D.int IntKind.i64 (↑s.p.length : Int)) = AV.d (D.int IntKind.i64 (↑s.p.length : Int))) ∧ ((Ob.box [AV.d (D.int IntKind.i64 s.b), AV.d (D.str s.r), AV.d (D.sl (List.map ptD s.p))] = Ob.box [AV.d (D.int IntKind.i64 s.b), AV.d (D.str s.r), AV.d (D.sl (List.map ptD s.p))]) ∧ (True))))))))) (h := {}) (subs := []) (ws := []) (ρ := []) (by kernel_rfl) ?_
  repeat' (first | with_reducible exact True.intro | with_reducible refine And.intro ?_ ?_ | with_reducible refine condP_dec (fun _ => ?_) (fun _ => ?_) | with_reducible refine condP_eq (fun _ => ?_) (fun _ => ?_) | with_reducible refine condP_ne (fun _ => ?_) (fun _ => ?_) | with_reducible refine condP_not (condP_dec (fun _ => ?_) (fun _ => ?_)) | with_reducible refine condP_not (condP_eq (fun _ => ?_) (fun _ => ?_)) | with_reducible refine condP_not (condP_intro (fun _ => ?_) (fun _ => ?_)) | with_reducible refine condP_intro (fun _ => ?_) (fun _ => ?_))
  all_goals (try simp only [List.length_map, AV.d.injEq, D.int.injEq, D.bool.injEq, D.str.injEq, D.sl.injEq, true_and, and_true, decide_eq_true_eq, decide_eq_false_iff_not, decide_eq_decide])
  all_goals (try simp only [List.length_map] at *)
  all_goals first | rfl | omega

set_option maxRecDepth 100000 in
set_option maxHeartbeats 1000000 in
theorem q18 (s : Rq) (e : Int) : Runs Try.prog 0 (loopN Try.prog 33 0) (St.as (I18 s e s.p.length) 75) (.exit 0) (St.as (I18 s e s.p.length) 75) := by
  refine round_wp (p := condP (decide ((↑s.p.length : Int) < (↑(List.map ptD s.p).length : Int))) (False) ((AV.ptr (0 : Nat) (0 : Nat) = AV.ptr (0 : Nat) (0 : Nat)) ∧ ((AV.d (D.int IntKind.i64 e) = AV.d (D.int IntKind.i64 e)) ∧ ((AV.d (D.int IntKind.i64 (↑s.p.length : Int)) = AV.d (D.int IntKind.i64 (↑s.p.length : Int))) ∧ ((Ob.box [AV.d (D.int IntKind.i64 s.b), AV.d (D.str s.r), AV.d (D.sl (List.map ptD s.p))] = Ob.box [AV.d (D.int IntKind.i64 s.b), AV.d (D.str s.r), AV.d (D.sl (List.map ptD s.p))]) ∧ (True)))))) (h := {}) (subs := []) (ws := []) (ρ := []) (by kernel_rfl) ?_
  repeat' (first | with_reducible exact True.intro | with_reducible refine And.intro ?_ ?_ | with_reducible refine condP_dec (fun _ => ?_) (fun _ => ?_) | with_reducible refine condP_eq (fun _ => ?_) (fun _ => ?_) | with_reducible refine condP_ne (fun _ => ?_) (fun _ => ?_) | with_reducible refine condP_not (condP_dec (fun _ => ?_) (fun _ => ?_)) | with_reducible refine condP_not (condP_eq (fun _ => ?_) (fun _ => ?_)) | with_reducible refine condP_not (condP_intro (fun _ => ?_) (fun _ => ?_)) | with_reducible refine condP_intro (fun _ => ?_) (fun _ => ?_))
  all_goals (try simp only [List.length_map, AV.d.injEq, D.int.injEq, D.bool.injEq, D.str.injEq, D.sl.injEq, true_and, and_true, decide_eq_true_eq, decide_eq_false_iff_not, decide_eq_decide])
  all_goals (try simp only [List.length_map] at *)
  all_goals first | rfl | omega

end Go.Proofs.Ytfacpafkldmkcaa.C12
