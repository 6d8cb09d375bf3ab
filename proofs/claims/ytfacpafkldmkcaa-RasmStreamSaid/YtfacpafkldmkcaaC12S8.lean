/-
laws 12: the program's join.
-/
import Derived.Test.YtfacpafkldmkcaaC12S6
set_option linter.unusedSimpArgs false
set_option linter.unusedVariables false
namespace Go.Proofs.Ytfacpafkldmkcaa.C12
open Sx Go.RowKit

def gEnd : List D → Option (AV × List Ob) := fun | [.agg [.int _ a, .str d]] => some (.d (.int .i64 (a + d.length)), []) | _ => none
/-- A part that touches another, with it. -/
def mgCut (y x : Pt) : List UInt8 := x.d.drop (min (x.d.length : Int) (pEnd y - x.a)).toNat
def mg (y x : Pt) : Pt := if y.a ≤ x.a then ⟨y.a, y.d ++ mgCut y x⟩ else ⟨x.a, x.d.take (y.a - x.a).toNat ++ y.d ++ mgCut y x⟩
def ptB (x : Pt) : Ob := .box [.d (.int .i64 x.a), .d (.str x.d)]
def I32 (l : List Pt) (x : Pt) (i j : Nat) : St := ⟨[(0, .d (.sl (l.map ptD))), (3, .ptr 0 0), (5, .own 1 2), (6, .d (.int .i64 j))], [(0, ptB x), (1, .row 2 ((l.take i).map ptD))]⟩
/-- What is in reach. -/
structure Sm (x : Pt) : Prop where
  a : 0 ≤ x.a ∧ x.a ≤ 1099511627776
  d : x.d.length < 1000000
theorem Sm.e {x : Pt} (h : Sm x) : IntKind.i64.wrap (pEnd x) = pEnd x := by
  have h1 := h.a
  have h2 := h.d
  unfold pEnd
  rw [IntKind.wrap_i64]; omega
set_option maxRecDepth 100000 in
set_option maxHeartbeats 1000000 in
theorem r32 (l : List Pt) (hl : l.length < 1000000) (x : Pt) (sx : Sm x) (i j : Nat) (y : Pt) (sy : Sm y) (hn : l[j]? = some y) (hx : pEnd y < x.a) : Runs Try.prog 0 (loopN Try.prog 43 0) (St.as (I32 l x j j) 104) (.normal) (St.as (I32 l x (j+1) (j+1)) 104) := by
  refine round_wp (p := (D.bool (decide ((↑j : Int) < (↑(List.map ptD l).length : Int))) = D.bool true) ∧ ((D.bool true = D.bool true) ∧ (((0 : Int) ≤ (↑j : Int)) ∧ (((List.map ptD l)[(↑j : Int).toNat]? = some (D.agg [D.int IntKind.i64 y.a, D.str y.d])) ∧ ((FnOK Try.prog (44 : Nat) [AV.d (D.agg [D.int IntKind.i64 y.a, D.str y.d])] [] (AV.d (D.int IntKind.i64 (y.a + (↑y.d.length : Int)))) []) ∧ ((D.bool (decide (y.a + (↑y.d.length : Int) < x.a)) = D.bool true) ∧ (((0 : Int) ≤ (↑j : Int)) ∧ (((List.map ptD l)[(↑j : Int).toNat]? = some (D.agg [D.int IntKind.i64 y.a, D.str y.d])) ∧ ((((List.map ptD (List.take j l)).length + [D.agg (List.take (2 : Nat) [D.int IntKind.i64 y.a, D.str y.d])].length) * (24 : Nat) ≤ (140737488355328 : Nat)) ∧ ((∀ (e : D), e ∈ chunk (2 : Nat) (1 : Nat) [D.int IntKind.i64 y.a, D.str y.d] → e.cells.length = (2 : Nat)) ∧ ((AV.d (D.sl (List.map ptD l)) = AV.d (D.sl (List.map ptD l))) ∧ ((AV.ptr (0 : Nat) (0 : Nat) = AV.ptr (0 : Nat) (0 : Nat)) ∧ ((AV.own (1240 : Nat) (2 : Nat) = AV.own (1240 : Nat) (2 : Nat)) ∧ ((AV.d (D.int IntKind.i64 (IntKind.i64.wrap ((↑j : Int) + (1 : Int)))) = AV.d (D.int IntKind.i64 (↑(j + (1 : Nat)) : Int))) ∧ ((Ob.box [AV.d (D.int IntKind.i64 x.a), AV.d (D.str x.d)] = Ob.box [AV.d (D.int IntKind.i64 x.a), AV.d (D.str x.d)]) ∧ ((Ob.row (2 : Nat) (List.map ptD (List.take j l) ++ [D.agg (List.take (2 : Nat) [D.int IntKind.i64 y.a, D.str y.d])]) = Ob.row (2 : Nat) (List.map ptD (List.take (j + (1 : Nat)) l))) ∧ (True))))))))))))))))) (h := {els := [(13, .el (ptD y)), (25, .el (ptD y))], G := [(44, gEnd)], H := [(3, [(3, .val (.bool true)), (12, .val (.bool true))])]}) (subs := []) (ws := []) (ρ := []) (by kernel_rfl) ?_
  have hj := get_lt hn
  have hi := inc_i64 (j := j) (by omega)
  have a1 := sx.a
  have a2 := sx.d
  have b1 := sy.a
  have b2 := sy.d
  have k1 := end33 x sx.e
  have k2 := end33 y sy.e
  have w1 : IntKind.i64.wrap (pEnd y - x.a) = pEnd y - x.a := by unfold pEnd; rw [IntKind.wrap_i64]; omega
  have w2 : IntKind.i64.wrap (y.a - x.a) = y.a - x.a := by rw [IntKind.wrap_i64]; omega
  have w1' : IntKind.i64.wrap (y.a + (y.d.length : Int) - x.a) = pEnd y - x.a := w1
  have t1 : List.take ((x.d.length : Int)).toNat x.d = x.d := List.take_length
  unfold pEnd at hx
  rw [hi, take_map_snoc _ hn]
  simp only [List.length_map]
  repeat' (first | with_reducible exact True.intro | with_reducible refine And.intro ?_ ?_ | with_reducible refine condP_dec (fun _ => ?_) (fun _ => ?_) | with_reducible refine condP_eq (fun _ => ?_) (fun _ => ?_) | with_reducible refine condP_ne (fun _ => ?_) (fun _ => ?_) | with_reducible refine condP_not (condP_dec (fun _ => ?_) (fun _ => ?_)) | with_reducible refine condP_not (condP_eq (fun _ => ?_) (fun _ => ?_)) | with_reducible refine condP_not (condP_intro (fun _ => ?_) (fun _ => ?_)) | with_reducible refine condP_intro (fun _ => ?_) (fun _ => ?_))
  all_goals first | exact k1 | exact k2 | exact el_map hn rfl | rfl | omega | exact dyes (by omega) | exact dno (by omega) | (unfold pEnd; omega) | (simp; omega) | (simp [chunk, ptD, D.cells]; done) | skip

set_option maxRecDepth 100000 in
set_option maxHeartbeats 1000000 in
theorem q32 (l : List Pt) (x : Pt) : Runs Try.prog 0 (loopN Try.prog 43 0) (St.as (I32 l x l.length l.length) 104) (.exit 0) (St.as (I32 l x l.length l.length) 104) := by
  refine round_wp (p := (D.bool (decide ((↑l.length : Int) < (↑(List.map ptD l).length : Int))) = D.bool false) ∧ ((D.bool false = D.bool false) ∧ ((AV.d (D.sl (List.map ptD l)) = AV.d (D.sl (List.map ptD l))) ∧ ((AV.ptr (0 : Nat) (0 : Nat) = AV.ptr (0 : Nat) (0 : Nat)) ∧ ((AV.own (1 : Nat) (2 : Nat) = AV.own (1 : Nat) (2 : Nat)) ∧ ((AV.d (D.int IntKind.i64 (↑l.length : Int)) = AV.d (D.int IntKind.i64 (↑l.length : Int))) ∧ ((Ob.box [AV.d (D.int IntKind.i64 x.a), AV.d (D.str x.d)] = Ob.box [AV.d (D.int IntKind.i64 x.a), AV.d (D.str x.d)]) ∧ ((Ob.row (2 : Nat) (List.map ptD (List.take l.length l)) = Ob.row (2 : Nat) (List.map ptD (List.take l.length l))) ∧ (True))))))))) (h := {H := [(3, [(3, .val (.bool false))])]}) (subs := []) (ws := []) (ρ := []) (by kernel_rfl) ?_
  simp only [List.length_map]
  repeat' (first | with_reducible exact True.intro | with_reducible refine And.intro ?_ ?_ | with_reducible refine condP_dec (fun _ => ?_) (fun _ => ?_) | with_reducible refine condP_eq (fun _ => ?_) (fun _ => ?_) | with_reducible refine condP_ne (fun _ => ?_) (fun _ => ?_) | with_reducible refine condP_not (condP_dec (fun _ => ?_) (fun _ => ?_)) | with_reducible refine condP_not (condP_eq (fun _ => ?_) (fun _ => ?_)) | with_reducible refine condP_not (condP_intro (fun _ => ?_) (fun _ => ?_)) | with_reducible refine condP_intro (fun _ => ?_) (fun _ => ?_))
  all_goals first | rfl | exact dno (by omega) | skip

set_option maxRecDepth 100000 in
set_option maxHeartbeats 1000000 in
theorem e32 (l : List Pt) (hl : l.length < 1000000) (x : Pt) (sx : Sm x) (i j : Nat) (y : Pt) (sy : Sm y) (hn : l[j]? = some y) (hx : ¬pEnd y < x.a) : Runs Try.prog 0 (loopN Try.prog 43 0) (St.as (I32 l x j j) 104) (.exit 0) (St.as (I32 l x j j) 104) := by
  refine round_wp (p := (D.bool (decide ((↑j : Int) < (↑(List.map ptD l).length : Int))) = D.bool true) ∧ ((D.bool true = D.bool true) ∧ (((0 : Int) ≤ (↑j : Int)) ∧ (((List.map ptD l)[(↑j : Int).toNat]? = some (D.agg [D.int IntKind.i64 y.a, D.str y.d])) ∧ ((FnOK Try.prog (44 : Nat) [AV.d (D.agg [D.int IntKind.i64 y.a, D.str y.d])] [] (AV.d (D.int IntKind.i64 (y.a + (↑y.d.length : Int)))) []) ∧ ((D.bool (decide (y.a + (↑y.d.length : Int) < x.a)) = D.bool false) ∧ ((AV.d (D.sl (List.map ptD l)) = AV.d (D.sl (List.map ptD l))) ∧ ((AV.ptr (0 : Nat) (0 : Nat) = AV.ptr (0 : Nat) (0 : Nat)) ∧ ((AV.own (1 : Nat) (2 : Nat) = AV.own (1 : Nat) (2 : Nat)) ∧ ((AV.d (D.int IntKind.i64 (↑j : Int)) = AV.d (D.int IntKind.i64 (↑j : Int))) ∧ ((Ob.box [AV.d (D.int IntKind.i64 x.a), AV.d (D.str x.d)] = Ob.box [AV.d (D.int IntKind.i64 x.a), AV.d (D.str x.d)]) ∧ ((Ob.row (2 : Nat) (List.map ptD (List.take j l)) = Ob.row (2 : Nat) (List.map ptD (List.take j l))) ∧ (True))))))))))))) (h := {els := [(13, .el (ptD y))], G := [(44, gEnd)], H := [(3, [(3, .val (.bool true)), (12, .val (.bool false))])]}) (subs := []) (ws := []) (ρ := []) (by kernel_rfl) ?_
  have hj := get_lt hn
  have hi := inc_i64 (j := j) (by omega)
  have a1 := sx.a
  have a2 := sx.d
  have b1 := sy.a
  have b2 := sy.d
  have k1 := end33 x sx.e
  have k2 := end33 y sy.e
  have w1 : IntKind.i64.wrap (pEnd y - x.a) = pEnd y - x.a := by unfold pEnd; rw [IntKind.wrap_i64]; omega
  have w2 : IntKind.i64.wrap (y.a - x.a) = y.a - x.a := by rw [IntKind.wrap_i64]; omega
  have w1' : IntKind.i64.wrap (y.a + (y.d.length : Int) - x.a) = pEnd y - x.a := w1
  have t1 : List.take ((x.d.length : Int)).toNat x.d = x.d := List.take_length
  unfold pEnd at hx
  simp only [List.length_map]
  repeat' (first | with_reducible exact True.intro | with_reducible refine And.intro ?_ ?_ | with_reducible refine condP_dec (fun _ => ?_) (fun _ => ?_) | with_reducible refine condP_eq (fun _ => ?_) (fun _ => ?_) | with_reducible refine condP_ne (fun _ => ?_) (fun _ => ?_) | with_reducible refine condP_not (condP_dec (fun _ => ?_) (fun _ => ?_)) | with_reducible refine condP_not (condP_eq (fun _ => ?_) (fun _ => ?_)) | with_reducible refine condP_not (condP_intro (fun _ => ?_) (fun _ => ?_)) | with_reducible refine condP_intro (fun _ => ?_) (fun _ => ?_))
  all_goals first | exact k1 | exact k2 | exact el_map hn rfl | rfl | omega | exact dyes (by omega) | exact dno (by omega) | (unfold pEnd; omega) | (simp; omega) | (simp [chunk, ptD, D.cells]; done) | skip

set_option maxRecDepth 100000 in
set_option maxHeartbeats 1000000 in
theorem m32a (l : List Pt) (hl : l.length < 1000000) (x : Pt) (sx : Sm x) (i j : Nat) (y : Pt) (sy : Sm y) (hn : l[j]? = some y) (h1 : y.a ≤ pEnd x) (h2 : y.a ≤ x.a) (h3 : x.a ≤ pEnd y) : Runs Try.prog 0 (loopN Try.prog 43 1) (St.as (I32 l x i j) 104) (.normal) (St.as (I32 l (mg y x) i (j+1)) 104) := by
  refine round_wp (p := condP (decide ((↑j : Int) < (↑(List.map ptD l).length : Int))) (((0 : Int) ≤ (↑j : Int)) ∧ (((List.map ptD l)[(↑j : Int).toNat]? = some (D.agg [D.int IntKind.i64 y.a, D.str y.d])) ∧ ((FnOK Try.prog (44 : Nat) [AV.d (D.agg [D.int IntKind.i64 x.a, D.str x.d])] [] (AV.d (D.int IntKind.i64 (x.a + (↑x.d.length : Int)))) []) ∧ ((D.bool (decide (y.a > x.a + (↑x.d.length : Int))) = D.bool false) ∧ ((D.bool (decide (y.a ≤ x.a)) = D.bool true) ∧ ((FnOK Try.prog (44 : Nat) [AV.d (D.agg [D.int IntKind.i64 y.a, D.str y.d])] [] (AV.d (D.int IntKind.i64 (y.a + (↑y.d.length : Int)))) []) ∧ (((0 : Int) ≤ min (↑x.d.length : Int) (IntKind.i64.wrap (y.a + (↑y.d.length : Int) - x.a)) ∧ min (↑x.d.length : Int) (IntKind.i64.wrap (y.a + (↑y.d.length : Int) - x.a)) ≤ (↑x.d.length : Int) ∧ (↑x.d.length : Int) ≤ (↑x.d.length : Int)) ∧ (((↑(y.d.length + (List.drop (min (↑x.d.length : Int) (IntKind.i64.wrap (y.a + (↑y.d.length : Int) - x.a))).toNat (List.take (↑x.d.length : Int).toNat x.d)).length) : Int) ≤ (9223372036854775807 : Int)) ∧ ((AV.d (D.sl (List.map ptD l)) = AV.d (D.sl (List.map ptD l))) ∧ ((AV.ptr (0 : Nat) (0 : Nat) = AV.ptr (0 : Nat) (0 : Nat)) ∧ ((AV.own (1 : Nat) (2 : Nat) = AV.own (1 : Nat) (2 : Nat)) ∧ ((AV.d (D.int IntKind.i64 (IntKind.i64.wrap ((↑j : Int) + (1 : Int)))) = AV.d (D.int IntKind.i64 (↑(j + (1 : Nat)) : Int))) ∧ ((Ob.box [AV.d (D.int IntKind.i64 y.a), AV.d (D.str (y.d ++ List.drop (min (↑x.d.length : Int) (IntKind.i64.wrap (y.a + (↑y.d.length : Int) - x.a))).toNat (List.take (↑x.d.length : Int).toNat x.d)))] = Ob.box [AV.d (D.int IntKind.i64 (mg y x).a), AV.d (D.str (mg y x).d)]) ∧ ((Ob.row (2 : Nat) (List.map ptD (List.take i l)) = Ob.row (2 : Nat) (List.map ptD (List.take i l))) ∧ (True))))))))))))))) (False)) (h := {els := [(37, .el (ptD y))], G := [(44, gEnd)], H := [(10, [(4, .val (.bool false))]), (11, [(4, .val (.bool true))])]}) (subs := []) (ws := []) (ρ := []) (by kernel_rfl) ?_
  have hj := get_lt hn
  have hi := inc_i64 (j := j) (by omega)
  have a1 := sx.a
  have a2 := sx.d
  have b1 := sy.a
  have b2 := sy.d
  have k1 := end33 x sx.e
  have k2 := end33 y sy.e
  have w1 : IntKind.i64.wrap (pEnd y - x.a) = pEnd y - x.a := by unfold pEnd; rw [IntKind.wrap_i64]; omega
  have w2 : IntKind.i64.wrap (y.a - x.a) = y.a - x.a := by rw [IntKind.wrap_i64]; omega
  have w1' : IntKind.i64.wrap (y.a + (y.d.length : Int) - x.a) = pEnd y - x.a := w1
  have t1 : List.take ((x.d.length : Int)).toNat x.d = x.d := List.take_length
  unfold mg mgCut
  rw [if_pos h2]
  unfold pEnd at h1 h3
  rw [hi]
  simp only [List.length_map, w1', t1]
  refine condP_t (by rw [decide_eq_true_eq]; omega) ?_
  repeat' (first | with_reducible exact True.intro | with_reducible refine And.intro ?_ ?_ | with_reducible refine condP_dec (fun _ => ?_) (fun _ => ?_) | with_reducible refine condP_eq (fun _ => ?_) (fun _ => ?_) | with_reducible refine condP_ne (fun _ => ?_) (fun _ => ?_) | with_reducible refine condP_not (condP_dec (fun _ => ?_) (fun _ => ?_)) | with_reducible refine condP_not (condP_eq (fun _ => ?_) (fun _ => ?_)) | with_reducible refine condP_not (condP_intro (fun _ => ?_) (fun _ => ?_)) | with_reducible refine condP_intro (fun _ => ?_) (fun _ => ?_))
  all_goals first | exact k1 | exact k2 | exact el_map hn rfl | rfl | omega | exact dyes (by omega) | exact dno (by omega) | (unfold pEnd; omega) | (simp; omega) | (simp [chunk, ptD, D.cells]; done) | skip

set_option maxRecDepth 100000 in
set_option maxHeartbeats 1000000 in
theorem m32b (l : List Pt) (hl : l.length < 1000000) (x : Pt) (sx : Sm x) (i j : Nat) (y : Pt) (sy : Sm y) (hn : l[j]? = some y) (h1 : y.a ≤ pEnd x) (h2 : ¬y.a ≤ x.a) (h3 : x.a ≤ pEnd y) : Runs Try.prog 0 (loopN Try.prog 43 1) (St.as (I32 l x i j) 104) (.normal) (St.as (I32 l (mg y x) i (j+1)) 104) := by
  refine round_wp (p := condP (decide ((↑j : Int) < (↑(List.map ptD l).length : Int))) (((0 : Int) ≤ (↑j : Int)) ∧ (((List.map ptD l)[(↑j : Int).toNat]? = some (D.agg [D.int IntKind.i64 y.a, D.str y.d])) ∧ ((FnOK Try.prog (44 : Nat) [AV.d (D.agg [D.int IntKind.i64 x.a, D.str x.d])] [] (AV.d (D.int IntKind.i64 (x.a + (↑x.d.length : Int)))) []) ∧ ((D.bool (decide (y.a > x.a + (↑x.d.length : Int))) = D.bool false) ∧ ((D.bool (decide (y.a ≤ x.a)) = D.bool false) ∧ (((0 : Int) ≤ (0 : Int) ∧ (0 : Int) ≤ IntKind.i64.wrap (y.a - x.a) ∧ IntKind.i64.wrap (y.a - x.a) ≤ (↑x.d.length : Int)) ∧ (((↑((List.drop (0 : Nat) (List.take (IntKind.i64.wrap (y.a - x.a)).toNat x.d)).length + y.d.length) : Int) ≤ (9223372036854775807 : Int)) ∧ ((FnOK Try.prog (44 : Nat) [AV.d (D.agg [D.int IntKind.i64 y.a, D.str y.d])] [] (AV.d (D.int IntKind.i64 (y.a + (↑y.d.length : Int)))) []) ∧ (((0 : Int) ≤ min (↑x.d.length : Int) (IntKind.i64.wrap (y.a + (↑y.d.length : Int) - x.a)) ∧ min (↑x.d.length : Int) (IntKind.i64.wrap (y.a + (↑y.d.length : Int) - x.a)) ≤ (↑x.d.length : Int) ∧ (↑x.d.length : Int) ≤ (↑x.d.length : Int)) ∧ (((↑((List.drop (0 : Nat) (List.take (IntKind.i64.wrap (y.a - x.a)).toNat x.d) ++ y.d).length + (List.drop (min (↑x.d.length : Int) (IntKind.i64.wrap (y.a + (↑y.d.length : Int) - x.a))).toNat (List.take (↑x.d.length : Int).toNat x.d)).length) : Int) ≤ (9223372036854775807 : Int)) ∧ ((AV.d (D.sl (List.map ptD l)) = AV.d (D.sl (List.map ptD l))) ∧ ((AV.ptr (0 : Nat) (0 : Nat) = AV.ptr (0 : Nat) (0 : Nat)) ∧ ((AV.own (1 : Nat) (2 : Nat) = AV.own (1 : Nat) (2 : Nat)) ∧ ((AV.d (D.int IntKind.i64 (IntKind.i64.wrap ((↑j : Int) + (1 : Int)))) = AV.d (D.int IntKind.i64 (↑(j + (1 : Nat)) : Int))) ∧ ((Ob.box [AV.d (D.int IntKind.i64 x.a), AV.d (D.str (List.drop (0 : Nat) (List.take (IntKind.i64.wrap (y.a - x.a)).toNat x.d) ++ y.d ++ List.drop (min (↑x.d.length : Int) (IntKind.i64.wrap (y.a + (↑y.d.length : Int) - x.a))).toNat (List.take (↑x.d.length : Int).toNat x.d)))] = Ob.box [AV.d (D.int IntKind.i64 (mg y x).a), AV.d (D.str (mg y x).d)]) ∧ ((Ob.row (2 : Nat) (List.map ptD (List.take i l)) = Ob.row (2 : Nat) (List.map ptD (List.take i l))) ∧ (True))))))))))))))))) (False)) (h := {els := [(37, .el (ptD y))], G := [(44, gEnd)], H := [(10, [(4, .val (.bool false))]), (11, [(4, .val (.bool false))])]}) (subs := []) (ws := []) (ρ := []) (by kernel_rfl) ?_
  have hj := get_lt hn
  have hi := inc_i64 (j := j) (by omega)
  have a1 := sx.a
  have a2 := sx.d
  have b1 := sy.a
  have b2 := sy.d
  have k1 := end33 x sx.e
  have k2 := end33 y sy.e
  have w1 : IntKind.i64.wrap (pEnd y - x.a) = pEnd y - x.a := by unfold pEnd; rw [IntKind.wrap_i64]; omega
  have w2 : IntKind.i64.wrap (y.a - x.a) = y.a - x.a := by rw [IntKind.wrap_i64]; omega
  have w1' : IntKind.i64.wrap (y.a + (y.d.length : Int) - x.a) = pEnd y - x.a := w1
  have t1 : List.take ((x.d.length : Int)).toNat x.d = x.d := List.take_length
  unfold mg mgCut
  rw [if_neg h2]
  unfold pEnd at h1 h3
  rw [hi]
  simp only [List.length_map, w1', w2, t1]
  refine condP_t (by rw [decide_eq_true_eq]; omega) ?_
  repeat' (first | with_reducible exact True.intro | with_reducible refine And.intro ?_ ?_ | with_reducible refine condP_dec (fun _ => ?_) (fun _ => ?_) | with_reducible refine condP_eq (fun _ => ?_) (fun _ => ?_) | with_reducible refine condP_ne (fun _ => ?_) (fun _ => ?_) | with_reducible refine condP_not (condP_dec (fun _ => ?_) (fun _ => ?_)) | with_reducible refine condP_not (condP_eq (fun _ => ?_) (fun _ => ?_)) | with_reducible refine condP_not (condP_intro (fun _ => ?_) (fun _ => ?_)) | with_reducible refine condP_intro (fun _ => ?_) (fun _ => ?_))
  all_goals first | exact k1 | exact k2 | exact el_map hn rfl | rfl | omega | exact dyes (by omega) | exact dno (by omega) | (unfold pEnd; omega) | (simp; omega) | (simp [chunk, ptD, D.cells]; done) | skip

set_option maxRecDepth 100000 in
set_option maxHeartbeats 1000000 in
theorem z32 (l : List Pt) (hl : l.length < 1000000) (x : Pt) (sx : Sm x) (i j : Nat) (y : Pt) (sy : Sm y) (hn : l[j]? = some y) (h1 : y.a > pEnd x) : Runs Try.prog 0 (loopN Try.prog 43 1) (St.as (I32 l x i j) 104) (.exit 2) (St.as (I32 l x i j) 104) := by
  refine round_wp (p := condP (decide ((↑j : Int) < (↑(List.map ptD l).length : Int))) (((0 : Int) ≤ (↑j : Int)) ∧ (((List.map ptD l)[(↑j : Int).toNat]? = some (D.agg [D.int IntKind.i64 y.a, D.str y.d])) ∧ ((FnOK Try.prog (44 : Nat) [AV.d (D.agg [D.int IntKind.i64 x.a, D.str x.d])] [] (AV.d (D.int IntKind.i64 (x.a + (↑x.d.length : Int)))) []) ∧ ((D.bool (decide (y.a > x.a + (↑x.d.length : Int))) = D.bool true) ∧ ((AV.d (D.sl (List.map ptD l)) = AV.d (D.sl (List.map ptD l))) ∧ ((AV.ptr (0 : Nat) (0 : Nat) = AV.ptr (0 : Nat) (0 : Nat)) ∧ ((AV.own (1 : Nat) (2 : Nat) = AV.own (1 : Nat) (2 : Nat)) ∧ ((AV.d (D.int IntKind.i64 (↑j : Int)) = AV.d (D.int IntKind.i64 (↑j : Int))) ∧ ((Ob.box [AV.d (D.int IntKind.i64 x.a), AV.d (D.str x.d)] = Ob.box [AV.d (D.int IntKind.i64 x.a), AV.d (D.str x.d)]) ∧ ((Ob.row (2 : Nat) (List.map ptD (List.take i l)) = Ob.row (2 : Nat) (List.map ptD (List.take i l))) ∧ (True))))))))))) ((AV.d (D.sl (List.map ptD l)) = AV.d (D.sl (List.map ptD l))) ∧ ((AV.ptr (0 : Nat) (0 : Nat) = AV.ptr (0 : Nat) (0 : Nat)) ∧ ((AV.own (1 : Nat) (2 : Nat) = AV.own (1 : Nat) (2 : Nat)) ∧ ((AV.d (D.int IntKind.i64 (↑j : Int)) = AV.d (D.int IntKind.i64 (↑j : Int))) ∧ ((Ob.box [AV.d (D.int IntKind.i64 x.a), AV.d (D.str x.d)] = Ob.box [AV.d (D.int IntKind.i64 x.a), AV.d (D.str x.d)]) ∧ ((Ob.row (2 : Nat) (List.map ptD (List.take i l)) = Ob.row (2 : Nat) (List.map ptD (List.take i l))) ∧ (True)))))))) (h := {els := [(37, .el (ptD y))], G := [(44, gEnd)], H := [(10, [(4, .val (.bool true))])]}) (subs := []) (ws := []) (ρ := []) (by kernel_rfl) ?_
  have hj := get_lt hn
  have hi := inc_i64 (j := j) (by omega)
  have a1 := sx.a
  have a2 := sx.d
  have b1 := sy.a
  have b2 := sy.d
  have k1 := end33 x sx.e
  have k2 := end33 y sy.e
  have w1 : IntKind.i64.wrap (pEnd y - x.a) = pEnd y - x.a := by unfold pEnd; rw [IntKind.wrap_i64]; omega
  have w2 : IntKind.i64.wrap (y.a - x.a) = y.a - x.a := by rw [IntKind.wrap_i64]; omega
  have w1' : IntKind.i64.wrap (y.a + (y.d.length : Int) - x.a) = pEnd y - x.a := w1
  have t1 : List.take ((x.d.length : Int)).toNat x.d = x.d := List.take_length
  unfold pEnd at h1
  simp only [List.length_map]
  refine condP_t (by rw [decide_eq_true_eq]; omega) ?_
  repeat' (first | with_reducible exact True.intro | with_reducible refine And.intro ?_ ?_ | with_reducible refine condP_dec (fun _ => ?_) (fun _ => ?_) | with_reducible refine condP_eq (fun _ => ?_) (fun _ => ?_) | with_reducible refine condP_ne (fun _ => ?_) (fun _ => ?_) | with_reducible refine condP_not (condP_dec (fun _ => ?_) (fun _ => ?_)) | with_reducible refine condP_not (condP_eq (fun _ => ?_) (fun _ => ?_)) | with_reducible refine condP_not (condP_intro (fun _ => ?_) (fun _ => ?_)) | with_reducible refine condP_intro (fun _ => ?_) (fun _ => ?_))
  all_goals first | exact k1 | exact k2 | exact el_map hn rfl | rfl | omega | exact dyes (by omega) | exact dno (by omega) | (unfold pEnd; omega) | (simp; omega) | (simp [chunk, ptD, D.cells]; done) | skip

set_option maxRecDepth 100000 in
set_option maxHeartbeats 1000000 in
theorem q32b (l : List Pt) (x : Pt) (i : Nat) : Runs Try.prog 0 (loopN Try.prog 43 1) (St.as (I32 l x i l.length) 104) (.exit 2) (St.as (I32 l x i l.length) 104) := by
  refine round_wp (p := condP (decide ((↑l.length : Int) < (↑(List.map ptD l).length : Int))) (False) ((AV.d (D.sl (List.map ptD l)) = AV.d (D.sl (List.map ptD l))) ∧ ((AV.ptr (0 : Nat) (0 : Nat) = AV.ptr (0 : Nat) (0 : Nat)) ∧ ((AV.own (1 : Nat) (2 : Nat) = AV.own (1 : Nat) (2 : Nat)) ∧ ((AV.d (D.int IntKind.i64 (↑l.length : Int)) = AV.d (D.int IntKind.i64 (↑l.length : Int))) ∧ ((Ob.box [AV.d (D.int IntKind.i64 x.a), AV.d (D.str x.d)] = Ob.box [AV.d (D.int IntKind.i64 x.a), AV.d (D.str x.d)]) ∧ ((Ob.row (2 : Nat) (List.map ptD (List.take i l)) = Ob.row (2 : Nat) (List.map ptD (List.take i l))) ∧ (True)))))))) (h := {}) (subs := []) (ws := []) (ρ := []) (by kernel_rfl) ?_
  repeat' (first | with_reducible exact True.intro | with_reducible refine And.intro ?_ ?_ | with_reducible refine condP_dec (fun _ => ?_) (fun _ => ?_) | with_reducible refine condP_eq (fun _ => ?_) (fun _ => ?_) | with_reducible refine condP_ne (fun _ => ?_) (fun _ => ?_) | with_reducible refine condP_not (condP_dec (fun _ => ?_) (fun _ => ?_)) | with_reducible refine condP_not (condP_eq (fun _ => ?_) (fun _ => ?_)) | with_reducible refine condP_not (condP_intro (fun _ => ?_) (fun _ => ?_)) | with_reducible refine condP_intro (fun _ => ?_) (fun _ => ?_))
  all_goals (try simp only [List.length_map, AV.d.injEq, D.int.injEq, D.bool.injEq, D.str.injEq, D.sl.injEq, true_and, and_true, decide_eq_true_eq, decide_eq_false_iff_not, decide_eq_decide])
  all_goals (try simp only [List.length_map] at *)
  all_goals first | rfl | omega

def p1 (l : List Pt) (x : Pt) : Nat := (l.takeWhile (fun y => decide (pEnd y < x.a))).length
def jn2 (x : Pt) : List Pt → Pt × List Pt
  | [] => (x, [])
  | y :: r => if y.a > pEnd x then (x, y :: r) else jn2 (mg y x) r
def jn (l : List Pt) (x : Pt) : List Pt := l.take (p1 l x) ++ [(jn2 x (l.drop (p1 l x))).1] ++ (jn2 x (l.drop (p1 l x))).2
set_option maxRecDepth 100000 in
set_option maxHeartbeats 1000000 in
theorem join32 (l : List Pt) (hl : l.length < 1000000) (x x' : Pt) (i j : Nat) (hi : i ≤ l.length) (hj : j ≤ l.length) (h1 : Loops Try.prog 0 (loopN Try.prog 43 0) ((I32 l x 0 0).as 104) (.exit 0) ((I32 l x i i).as 104)) (h2 : Loops Try.prog 0 (loopN Try.prog 43 1) ((I32 l x i i).as 104) (.exit 2) ((I32 l x' i j).as 104)) : FnOK Try.prog 43 ([.d (.sl (l.map ptD)), .d (ptD x)]) ([]) (.own 0 2) ([.row 2 ((l.take i ++ [x'] ++ l.drop j).map ptD)]) := by
  refine fnOK_wp (p := (AV.d (D.sl (List.map ptD l)) = AV.d (D.sl (List.map ptD l))) ∧ ((AV.ptr (1024 : Nat) (0 : Nat) = AV.ptr (1024 : Nat) (0 : Nat)) ∧ ((AV.own (901 : Nat) (2 : Nat) = AV.own (901 : Nat) (2 : Nat)) ∧ ((AV.d (D.int IntKind.i64 (0 : Int)) = AV.d (D.int IntKind.i64 (0 : Int))) ∧ ((Ob.box [AV.d (D.int IntKind.i64 x.a), AV.d (D.str x.d)] = Ob.box [AV.d (D.int IntKind.i64 x.a), AV.d (D.str x.d)]) ∧ ((Ob.row (2 : Nat) [] = Ob.row (2 : Nat) []) ∧ ((LoopsS Try.prog (0 : Nat) (loopN Try.prog (43 : Nat) (0 : Nat)) (I32 l x (0 : Nat) (0 : Nat)) (Exit.exit (0 : Nat)) (I32 l x i i) (104 : Nat)) ∧ ((AV.d (D.sl (List.map ptD l)) = AV.d (D.sl (List.map ptD l))) ∧ ((AV.ptr (0 : Nat) (0 : Nat) = AV.ptr (0 : Nat) (0 : Nat)) ∧ ((AV.own (1 : Nat) (2 : Nat) = AV.own (1 : Nat) (2 : Nat)) ∧ ((AV.d (D.int IntKind.i64 (↑i : Int)) = AV.d (D.int IntKind.i64 (↑i : Int))) ∧ ((Ob.box [AV.d (D.int IntKind.i64 x.a), AV.d (D.str x.d)] = Ob.box [AV.d (D.int IntKind.i64 x.a), AV.d (D.str x.d)]) ∧ ((Ob.row (2 : Nat) (List.map ptD (List.take i l)) = Ob.row (2 : Nat) (List.map ptD (List.take i l))) ∧ ((LoopsS Try.prog (0 : Nat) (loopN Try.prog (43 : Nat) (1 : Nat)) (I32 l x i i) (Exit.exit (2 : Nat)) (I32 l x' i j) (104 : Nat)) ∧ ((((List.map ptD (List.take i l)).length + [D.agg (List.take (2 : Nat) [D.int IntKind.i64 x'.a, D.str x'.d])].length) * (24 : Nat) ≤ (140737488355328 : Nat)) ∧ ((∀ (e : D), e ∈ chunk (2 : Nat) (1 : Nat) [D.int IntKind.i64 x'.a, D.str x'.d] → e.cells.length = (2 : Nat)) ∧ (((0 : Int) ≤ (↑j : Int) ∧ (↑j : Int) ≤ (↑(List.map ptD l).length : Int) ∧ (↑(List.map ptD l).length : Int) ≤ (↑(List.map ptD l).length : Int)) ∧ ((∀ (e : D), e ∈ List.map ptD l → e.cells.length = (2 : Nat)) ∧ ((((List.map ptD (List.take i l) ++ [D.agg (List.take (2 : Nat) [D.int IntKind.i64 x'.a, D.str x'.d])]).length + (List.drop (↑j : Int).toNat (List.take (↑(List.map ptD l).length : Int).toNat (List.map ptD l))).length) * (24 : Nat) ≤ (140737488355328 : Nat)) ∧ ((∀ (e : D), e ∈ List.drop (↑j : Int).toNat (List.take (↑(List.map ptD l).length : Int).toNat (List.map ptD l)) → e.cells.length = (2 : Nat)) ∧ ((AV.own (1824 : Nat) (2 : Nat) = AV.own (1824 : Nat) (2 : Nat)) ∧ ((Ob.row (2 : Nat) (List.map ptD (List.take i l) ++ [D.agg (List.take (2 : Nat) [D.int IntKind.i64 x'.a, D.str x'.d])] ++ List.drop (↑j : Int).toNat (List.take (↑(List.map ptD l).length : Int).toNat (List.map ptD l))) = Ob.row (2 : Nat) (List.map ptD (List.take i l ++ [x'] ++ List.drop j l))) ∧ (True))))))))))))))))))))))) (h := {}) (subs := [⟨[], [], I32 l x 0 0, .exit 0, I32 l x i i⟩, ⟨[], [], I32 l x i i, .exit 2, I32 l x' i j⟩]) (ws := []) (ρ := []) (by kernel_rfl) ?_
  have t1 : List.drop ((j : Int)).toNat (List.take (((l.map ptD).length : Int)).toNat (l.map ptD)) = (l.drop j).map ptD := by rw [Int.toNat_natCast, Int.toNat_natCast, List.take_length, List.map_drop]
  simp only [t1]
  repeat' (first | with_reducible exact True.intro | with_reducible refine And.intro ?_ ?_ | with_reducible refine condP_dec (fun _ => ?_) (fun _ => ?_) | with_reducible refine condP_eq (fun _ => ?_) (fun _ => ?_) | with_reducible refine condP_ne (fun _ => ?_) (fun _ => ?_) | with_reducible refine condP_not (condP_dec (fun _ => ?_) (fun _ => ?_)) | with_reducible refine condP_not (condP_eq (fun _ => ?_) (fun _ => ?_)) | with_reducible refine condP_not (condP_intro (fun _ => ?_) (fun _ => ?_)) | with_reducible refine condP_intro (fun _ => ?_) (fun _ => ?_))
  all_goals first | exact h1 | exact h2 | rfl | omega | exact ptD_sz l | exact ptD_sz _ | (simp; omega) | (simp [chunk, ptD, D.cells]; done) | (simp [ptD]; done) | (simp; done) | skip

end Go.Proofs.Ytfacpafkldmkcaa.C12
