/-
Part 4 of 9 of the proof of pipeEnds: the lemmas that it needs, of the texts C12S8, C12S9, C12S10, C12S11, C12S12, C12S13, C13S0, C13S1, C13S2, C13S3, C13S4, C13S5, C06S0, C06S1. No condition but those that each lemma names.
-/
import Derived.Test.YtalpfhpeaaocmaaGreatE3
import Derived.Test.YtalpfhpeaaocmaaGreatProg
import Derived.KernelRfl
import Derived.Test.YtalpfhpeaaocmaaGreatE1
import Derived.Test.YtalpfhpeaaocmaaGreatE2

set_option linter.unusedSimpArgs false
set_option linter.unusedVariables false
set_option maxRecDepth 100000
set_option maxHeartbeats 1000000
section
namespace Go.Proofs.YtalpfhpeaaocmaaGreat.C12
open Sx Go.RowKit
def gEnd : List D → Option (AV × List Ob) := fun | [.agg [.int _ a, .str d]] => some (.d (.int .i64 (a + d.length)), []) | _ => none
/-- A part that touches another, with it. -/
def mgCut (y x : Pt) : List UInt8 := x.d.drop (min (x.d.length : Int) (pEnd y - x.a)).toNat
def mg (y x : Pt) : Pt := if y.a ≤ x.a then ⟨y.a, y.d ++ mgCut y x⟩ else ⟨x.a, x.d.take (y.a - x.a).toNat ++ y.d ++ mgCut y x⟩
def ptB (x : Pt) : Ob := .box [.d (.int .i64 x.a), .d (.str x.d)]
def I32 (l : List Pt) (x : Pt) (i j : Nat) : St := ⟨[(0, .d (.sl (l.map ptD))), (3, .ptr 0 0), (5, .own 1 2), (6, .d (.int .i64 j))], [(0, ptB x), (1, .row 2 ((l.take i).map ptD))]⟩
/-- What is in reach. -/
structure Sm (x : Pt) : Prop where
 a : 0 ≤ x.a ∧ x.a ≤ 1099511627776
 d : x.d.length < 1000000
theorem Sm.e {x : Pt} (h : Sm x) : IntKind.i64.wrap (pEnd x) = pEnd x := by
 have h1 := h.a
 have h2 := h.d
 unfold pEnd
 rw [IntKind.wrap_i64]; omega
theorem r32 (l : List Pt) (hl : l.length < 1000000) (x : Pt) (sx : Sm x) (i j : Nat) (y : Pt) (sy : Sm y) (hn : l[j]? = some y) (hx : pEnd y < x.a) : Runs Tryz.prog 0 (loopN Tryz.prog 93 0) (St.as (I32 l x j j) 104) (.normal) (St.as (I32 l x (j+1) (j+1)) 104) := by
 refine round_wp (p := (D.bool (decide ((↑j : Int) < (↑(List.map ptD l).length : Int))) = D.bool true) ∧ (rf (D.bool true)) ∧ ((0 : Int) ≤ (↑j : Int)) ∧ ((List.map ptD l)[(↑j : Int).toNat]? = some (ptD y)) ∧ (FnOK Tryz.prog 94 [AV.d (ptD y)] [] (vI (y.a + (↑y.d.length : Int))) []) ∧ (D.bool (decide (y.a + (↑y.d.length : Int) < x.a)) = D.bool true) ∧ ((0 : Int) ≤ (↑j : Int)) ∧ ((List.map ptD l)[(↑j : Int).toNat]? = some (ptD y)) ∧ (((List.map ptD (List.take j l)).length + [D.agg (List.take 2 [D.int .i64 y.a, D.str y.d])].length) * 24 ≤ 140737488355328) ∧ (∀ (e : D), e ∈ chunk 2 1 [D.int .i64 y.a, D.str y.d] → e.cells.length = 2) ∧ (rf (vL (List.map ptD l))) ∧ (rf (AV.ptr 0 0)) ∧ (rf (AV.own 1240 2)) ∧ (vI (IntKind.i64.wrap ((↑j : Int) + (1 : Int))) = vI (↑(j + 1) : Int)) ∧ (rf (Ob.box [vI x.a, vS x.d])) ∧ (Ob.row 2 (List.map ptD (List.take j l) ++ [D.agg (List.take 2 [D.int .i64 y.a, D.str y.d])]) = Ob.row 2 (List.map ptD (List.take (j + 1) l))) ∧ True) (h := {els := [(13, .el (ptD y)), (25, .el (ptD y))], G := [(94, gEnd)], H := [(3, [(3, .val (.bool true)), (12, .val (.bool true))])]}) (subs := []) (ws := []) (ρ := []) (by kernel_rfl) ?_
 have hj := get_lt hn
 have hi := inc_i64 (j := j) (by omega)
 have a1 := sx.a
 have a2 := sx.d
 have b1 := sy.a
 have b2 := sy.d
 have k1 := end33 x sx.e
 have k2 := end33 y sy.e
 have w1 : IntKind.i64.wrap (pEnd y - x.a) = pEnd y - x.a := by unfold pEnd; rw [IntKind.wrap_i64]; omega
 have w2 : IntKind.i64.wrap (y.a - x.a) = y.a - x.a := by rw [IntKind.wrap_i64]; omega
 have w1' : IntKind.i64.wrap (y.a + (y.d.length : Int) - x.a) = pEnd y - x.a := w1
 have t1 : List.take ((x.d.length : Int)).toNat x.d = x.d := List.take_length
 unfold pEnd at hx
 rw [hi, take_map_snoc _ hn]
 simp only [List.length_map]
 repeat' (with_reducible first|exact ⟨⟩|apply And.intro|(first|apply zA|apply zB|apply zC|apply zD|apply zE|apply zF|apply zG)<;>intro)
 all_goals first | exact k1 | exact k2 | exact el_map hn rfl | rfl | omega | exact dyes (by omega) | exact dno (by omega) | (unfold pEnd; omega) | (simp; omega) | (simp [chunk, ptD, D.cells]; done) | skip
theorem q32 (l : List Pt) (x : Pt) : Runs Tryz.prog 0 (loopN Tryz.prog 93 0) (St.as (I32 l x l.length l.length) 104) (.exit 0) (St.as (I32 l x l.length l.length) 104) := by
 refine round_wp (p := (D.bool (decide ((↑l.length : Int) < (↑(List.map ptD l).length : Int))) = D.bool false) ∧ (rf (D.bool false)) ∧ (rf (vL (List.map ptD l))) ∧ (rf (AV.ptr 0 0)) ∧ (rf (AV.own 1 2)) ∧ (rf (vI (↑l.length : Int))) ∧ (rf (Ob.box [vI x.a, vS x.d])) ∧ (rf (Ob.row 2 (List.map ptD (List.take l.length l)))) ∧ True) (h := {H := [(3, [(3, .val (.bool false))])]}) (subs := []) (ws := []) (ρ := []) (by kernel_rfl) ?_
 simp only [List.length_map]
 repeat' (with_reducible first|exact ⟨⟩|apply And.intro|(first|apply zA|apply zB|apply zC|apply zD|apply zE|apply zF|apply zG)<;>intro)
 all_goals first | rfl | exact dno (by omega) | skip
theorem e32 (l : List Pt) (hl : l.length < 1000000) (x : Pt) (sx : Sm x) (i j : Nat) (y : Pt) (sy : Sm y) (hn : l[j]? = some y) (hx : ¬pEnd y < x.a) : Runs Tryz.prog 0 (loopN Tryz.prog 93 0) (St.as (I32 l x j j) 104) (.exit 0) (St.as (I32 l x j j) 104) := by
 refine round_wp (p := (D.bool (decide ((↑j : Int) < (↑(List.map ptD l).length : Int))) = D.bool true) ∧ (rf (D.bool true)) ∧ ((0 : Int) ≤ (↑j : Int)) ∧ ((List.map ptD l)[(↑j : Int).toNat]? = some (ptD y)) ∧ (FnOK Tryz.prog 94 [AV.d (ptD y)] [] (vI (y.a + (↑y.d.length : Int))) []) ∧ (D.bool (decide (y.a + (↑y.d.length : Int) < x.a)) = D.bool false) ∧ (rf (vL (List.map ptD l))) ∧ (rf (AV.ptr 0 0)) ∧ (rf (AV.own 1 2)) ∧ (rf (vI (↑j : Int))) ∧ (rf (Ob.box [vI x.a, vS x.d])) ∧ (rf (Ob.row 2 (List.map ptD (List.take j l)))) ∧ True) (h := {els := [(13, .el (ptD y))], G := [(94, gEnd)], H := [(3, [(3, .val (.bool true)), (12, .val (.bool false))])]}) (subs := []) (ws := []) (ρ := []) (by kernel_rfl) ?_
 have hj := get_lt hn
 have hi := inc_i64 (j := j) (by omega)
 have a1 := sx.a
 have a2 := sx.d
 have b1 := sy.a
 have b2 := sy.d
 have k1 := end33 x sx.e
 have k2 := end33 y sy.e
 have w1 : IntKind.i64.wrap (pEnd y - x.a) = pEnd y - x.a := by unfold pEnd; rw [IntKind.wrap_i64]; omega
 have w2 : IntKind.i64.wrap (y.a - x.a) = y.a - x.a := by rw [IntKind.wrap_i64]; omega
 have w1' : IntKind.i64.wrap (y.a + (y.d.length : Int) - x.a) = pEnd y - x.a := w1
 have t1 : List.take ((x.d.length : Int)).toNat x.d = x.d := List.take_length
 unfold pEnd at hx
 simp only [List.length_map]
 repeat' (with_reducible first|exact ⟨⟩|apply And.intro|(first|apply zA|apply zB|apply zC|apply zD|apply zE|apply zF|apply zG)<;>intro)
 all_goals first | exact k1 | exact k2 | exact el_map hn rfl | rfl | omega | exact dyes (by omega) | exact dno (by omega) | (unfold pEnd; omega) | (simp; omega) | (simp [chunk, ptD, D.cells]; done) | skip
theorem m32a (l : List Pt) (hl : l.length < 1000000) (x : Pt) (sx : Sm x) (i j : Nat) (y : Pt) (sy : Sm y) (hn : l[j]? = some y) (h1 : y.a ≤ pEnd x) (h2 : y.a ≤ x.a) (h3 : x.a ≤ pEnd y) : Runs Tryz.prog 0 (loopN Tryz.prog 93 1) (St.as (I32 l x i j) 104) (.normal) (St.as (I32 l (mg y x) i (j+1)) 104) := by
 refine round_wp (p := condP (decide ((↑j : Int) < (↑(List.map ptD l).length : Int))) (((0 : Int) ≤ (↑j : Int)) ∧ ((List.map ptD l)[(↑j : Int).toNat]? = some (ptD y)) ∧ (FnOK Tryz.prog 94 [AV.d (ptD x)] [] (vI (x.a + (↑x.d.length : Int))) []) ∧ (D.bool (decide (y.a > x.a + (↑x.d.length : Int))) = D.bool false) ∧ (D.bool (decide (y.a ≤ x.a)) = D.bool true) ∧ (FnOK Tryz.prog 94 [AV.d (ptD y)] [] (vI (y.a + (↑y.d.length : Int))) []) ∧ ((0 : Int) ≤ min (↑x.d.length : Int) (IntKind.i64.wrap (y.a + (↑y.d.length : Int) - x.a)) ∧ min (↑x.d.length : Int) (IntKind.i64.wrap (y.a + (↑y.d.length : Int) - x.a)) ≤ (↑x.d.length : Int) ∧ (↑x.d.length : Int) ≤ (↑x.d.length : Int)) ∧ ((↑(y.d.length + (List.drop (min (↑x.d.length : Int) (IntKind.i64.wrap (y.a + (↑y.d.length : Int) - x.a))).toNat (List.take (↑x.d.length : Int).toNat x.d)).length) : Int) ≤ (9223372036854775807 : Int)) ∧ (rf (vL (List.map ptD l))) ∧ (rf (AV.ptr 0 0)) ∧ (rf (AV.own 1 2)) ∧ (vI (IntKind.i64.wrap ((↑j : Int) + (1 : Int))) = vI (↑(j + 1) : Int)) ∧ (Ob.box [vI y.a, vS (y.d ++ List.drop (min (↑x.d.length : Int) (IntKind.i64.wrap (y.a + (↑y.d.length : Int) - x.a))).toNat (List.take (↑x.d.length : Int).toNat x.d))] = Ob.box [vI (mg y x).a, vS (mg y x).d]) ∧ (rf (Ob.row 2 (List.map ptD (List.take i l)))) ∧ True) (False)) (h := {els := [(37, .el (ptD y))], G := [(94, gEnd)], H := [(10, [(4, .val (.bool false))]), (11, [(4, .val (.bool true))])]}) (subs := []) (ws := []) (ρ := []) (by kernel_rfl) ?_
 have hj := get_lt hn
 have hi := inc_i64 (j := j) (by omega)
 have a1 := sx.a
 have a2 := sx.d
 have b1 := sy.a
 have b2 := sy.d
 have k1 := end33 x sx.e
 have k2 := end33 y sy.e
 have w1 : IntKind.i64.wrap (pEnd y - x.a) = pEnd y - x.a := by unfold pEnd; rw [IntKind.wrap_i64]; omega
 have w2 : IntKind.i64.wrap (y.a - x.a) = y.a - x.a := by rw [IntKind.wrap_i64]; omega
 have w1' : IntKind.i64.wrap (y.a + (y.d.length : Int) - x.a) = pEnd y - x.a := w1
 have t1 : List.take ((x.d.length : Int)).toNat x.d = x.d := List.take_length
 unfold mg mgCut
 rw [if_pos h2]
 unfold pEnd at h1 h3
 rw [hi]
 simp only [List.length_map, w1', t1]
 refine condP_t (by rw [decide_eq_true_eq]; omega) ?_
 repeat' (with_reducible first|exact ⟨⟩|apply And.intro|(first|apply zA|apply zB|apply zC|apply zD|apply zE|apply zF|apply zG)<;>intro)
 all_goals first | exact k1 | exact k2 | exact el_map hn rfl | rfl | omega | exact dyes (by omega) | exact dno (by omega) | (unfold pEnd; omega) | (simp; omega) | (simp [chunk, ptD, D.cells]; done) | skip
theorem m32b (l : List Pt) (hl : l.length < 1000000) (x : Pt) (sx : Sm x) (i j : Nat) (y : Pt) (sy : Sm y) (hn : l[j]? = some y) (h1 : y.a ≤ pEnd x) (h2 : ¬y.a ≤ x.a) (h3 : x.a ≤ pEnd y) : Runs Tryz.prog 0 (loopN Tryz.prog 93 1) (St.as (I32 l x i j) 104) (.normal) (St.as (I32 l (mg y x) i (j+1)) 104) := by
 refine round_wp (p := condP (decide ((↑j : Int) < (↑(List.map ptD l).length : Int))) (((0 : Int) ≤ (↑j : Int)) ∧ ((List.map ptD l)[(↑j : Int).toNat]? = some (ptD y)) ∧ (FnOK Tryz.prog 94 [AV.d (ptD x)] [] (vI (x.a + (↑x.d.length : Int))) []) ∧ (D.bool (decide (y.a > x.a + (↑x.d.length : Int))) = D.bool false) ∧ (D.bool (decide (y.a ≤ x.a)) = D.bool false) ∧ ((0 : Int) ≤ (0 : Int) ∧ (0 : Int) ≤ IntKind.i64.wrap (y.a - x.a) ∧ IntKind.i64.wrap (y.a - x.a) ≤ (↑x.d.length : Int)) ∧ ((↑((List.drop 0 (List.take (IntKind.i64.wrap (y.a - x.a)).toNat x.d)).length + y.d.length) : Int) ≤ (9223372036854775807 : Int)) ∧ (FnOK Tryz.prog 94 [AV.d (ptD y)] [] (vI (y.a + (↑y.d.length : Int))) []) ∧ ((0 : Int) ≤ min (↑x.d.length : Int) (IntKind.i64.wrap (y.a + (↑y.d.length : Int) - x.a)) ∧ min (↑x.d.length : Int) (IntKind.i64.wrap (y.a + (↑y.d.length : Int) - x.a)) ≤ (↑x.d.length : Int) ∧ (↑x.d.length : Int) ≤ (↑x.d.length : Int)) ∧ ((↑((List.drop 0 (List.take (IntKind.i64.wrap (y.a - x.a)).toNat x.d) ++ y.d).length + (List.drop (min (↑x.d.length : Int) (IntKind.i64.wrap (y.a + (↑y.d.length : Int) - x.a))).toNat (List.take (↑x.d.length : Int).toNat x.d)).length) : Int) ≤ (9223372036854775807 : Int)) ∧ (rf (vL (List.map ptD l))) ∧ (rf (AV.ptr 0 0)) ∧ (rf (AV.own 1 2)) ∧ (vI (IntKind.i64.wrap ((↑j : Int) + (1 : Int))) = vI (↑(j + 1) : Int)) ∧ (Ob.box [vI x.a, vS (List.drop 0 (List.take (IntKind.i64.wrap (y.a - x.a)).toNat x.d) ++ y.d ++ List.drop (min (↑x.d.length : Int) (IntKind.i64.wrap (y.a + (↑y.d.length : Int) - x.a))).toNat (List.take (↑x.d.length : Int).toNat x.d))] = Ob.box [vI (mg y x).a, vS (mg y x).d]) ∧ (rf (Ob.row 2 (List.map ptD (List.take i l)))) ∧ True) (False)) (h := {els := [(37, .el (ptD y))], G := [(94, gEnd)], H := [(10, [(4, .val (.bool false))]), (11, [(4, .val (.bool false))])]}) (subs := []) (ws := []) (ρ := []) (by kernel_rfl) ?_
 have hj := get_lt hn
 have hi := inc_i64 (j := j) (by omega)
 have a1 := sx.a
 have a2 := sx.d
 have b1 := sy.a
 have b2 := sy.d
 have k1 := end33 x sx.e
 have k2 := end33 y sy.e
 have w1 : IntKind.i64.wrap (pEnd y - x.a) = pEnd y - x.a := by unfold pEnd; rw [IntKind.wrap_i64]; omega
 have w2 : IntKind.i64.wrap (y.a - x.a) = y.a - x.a := by rw [IntKind.wrap_i64]; omega
 have w1' : IntKind.i64.wrap (y.a + (y.d.length : Int) - x.a) = pEnd y - x.a := w1
 have t1 : List.take ((x.d.length : Int)).toNat x.d = x.d := List.take_length
 unfold mg mgCut
 rw [if_neg h2]
 unfold pEnd at h1 h3
 rw [hi]
 simp only [List.length_map, w1', w2, t1]
 refine condP_t (by rw [decide_eq_true_eq]; omega) ?_
 repeat' (with_reducible first|exact ⟨⟩|apply And.intro|(first|apply zA|apply zB|apply zC|apply zD|apply zE|apply zF|apply zG)<;>intro)
 all_goals first | exact k1 | exact k2 | exact el_map hn rfl | rfl | omega | exact dyes (by omega) | exact dno (by omega) | (unfold pEnd; omega) | (simp; omega) | (simp [chunk, ptD, D.cells]; done) | skip
theorem z32 (l : List Pt) (hl : l.length < 1000000) (x : Pt) (sx : Sm x) (i j : Nat) (y : Pt) (sy : Sm y) (hn : l[j]? = some y) (h1 : y.a > pEnd x) : Runs Tryz.prog 0 (loopN Tryz.prog 93 1) (St.as (I32 l x i j) 104) (.exit 2) (St.as (I32 l x i j) 104) := by
 refine round_wp (p := condP (decide ((↑j : Int) < (↑(List.map ptD l).length : Int))) (((0 : Int) ≤ (↑j : Int)) ∧ ((List.map ptD l)[(↑j : Int).toNat]? = some (ptD y)) ∧ (FnOK Tryz.prog 94 [AV.d (ptD x)] [] (vI (x.a + (↑x.d.length : Int))) []) ∧ (D.bool (decide (y.a > x.a + (↑x.d.length : Int))) = D.bool true) ∧ (rf (vL (List.map ptD l))) ∧ (rf (AV.ptr 0 0)) ∧ (rf (AV.own 1 2)) ∧ (rf (vI (↑j : Int))) ∧ (rf (Ob.box [vI x.a, vS x.d])) ∧ (rf (Ob.row 2 (List.map ptD (List.take i l)))) ∧ True) ((rf (vL (List.map ptD l))) ∧ (rf (AV.ptr 0 0)) ∧ (rf (AV.own 1 2)) ∧ (rf (vI (↑j : Int))) ∧ (rf (Ob.box [vI x.a, vS x.d])) ∧ (rf (Ob.row 2 (List.map ptD (List.take i l)))) ∧ True)) (h := {els := [(37, .el (ptD y))], G := [(94, gEnd)], H := [(10, [(4, .val (.bool true))])]}) (subs := []) (ws := []) (ρ := []) (by kernel_rfl) ?_
 have hj := get_lt hn
 have hi := inc_i64 (j := j) (by omega)
 have a1 := sx.a
 have a2 := sx.d
 have b1 := sy.a
 have b2 := sy.d
 have k1 := end33 x sx.e
 have k2 := end33 y sy.e
 have w1 : IntKind.i64.wrap (pEnd y - x.a) = pEnd y - x.a := by unfold pEnd; rw [IntKind.wrap_i64]; omega
 have w2 : IntKind.i64.wrap (y.a - x.a) = y.a - x.a := by rw [IntKind.wrap_i64]; omega
 have w1' : IntKind.i64.wrap (y.a + (y.d.length : Int) - x.a) = pEnd y - x.a := w1
 have t1 : List.take ((x.d.length : Int)).toNat x.d = x.d := List.take_length
 unfold pEnd at h1
 simp only [List.length_map]
 refine condP_t (by rw [decide_eq_true_eq]; omega) ?_
 repeat' (with_reducible first|exact ⟨⟩|apply And.intro|(first|apply zA|apply zB|apply zC|apply zD|apply zE|apply zF|apply zG)<;>intro)
 all_goals first | exact k1 | exact k2 | exact el_map hn rfl | rfl | omega | exact dyes (by omega) | exact dno (by omega) | (unfold pEnd; omega) | (simp; omega) | (simp [chunk, ptD, D.cells]; done) | skip
theorem q32b (l : List Pt) (x : Pt) (i : Nat) : Runs Tryz.prog 0 (loopN Tryz.prog 93 1) (St.as (I32 l x i l.length) 104) (.exit 2) (St.as (I32 l x i l.length) 104) := by
 refine round_wp (p := condP (decide ((↑l.length : Int) < (↑(List.map ptD l).length : Int))) (False) ((rf (vL (List.map ptD l))) ∧ (rf (AV.ptr 0 0)) ∧ (rf (AV.own 1 2)) ∧ (rf (vI (↑l.length : Int))) ∧ (rf (Ob.box [vI x.a, vS x.d])) ∧ (rf (Ob.row 2 (List.map ptD (List.take i l)))) ∧ True)) (h := {}) (subs := []) (ws := []) (ρ := []) (by kernel_rfl) ?_
 repeat' (with_reducible first|exact ⟨⟩|apply And.intro|(first|apply zA|apply zB|apply zC|apply zD|apply zE|apply zF|apply zG)<;>intro)
 all_goals (try simp only [List.length_map, AV.d.injEq, D.int.injEq, D.bool.injEq, D.str.injEq, D.sl.injEq, true_and, and_true, decide_eq_true_eq, decide_eq_false_iff_not, decide_eq_decide])
 all_goals (try simp only [List.length_map] at *)
 all_goals first | rfl | omega
def p1 (l : List Pt) (x : Pt) : Nat := (l.takeWhile (fun y => decide (pEnd y < x.a))).length
def jn2 (x : Pt) : List Pt → Pt × List Pt
 | [] => (x, [])
 | y :: r => if y.a > pEnd x then (x, y :: r) else jn2 (mg y x) r
def jn (l : List Pt) (x : Pt) : List Pt := l.take (p1 l x) ++ [(jn2 x (l.drop (p1 l x))).1] ++ (jn2 x (l.drop (p1 l x))).2
theorem join32 (l : List Pt) (hl : l.length < 1000000) (x x' : Pt) (i j : Nat) (hi : i ≤ l.length) (hj : j ≤ l.length) (h1 : Loops Tryz.prog 0 (loopN Tryz.prog 93 0) ((I32 l x 0 0).as 104) (.exit 0) ((I32 l x i i).as 104)) (h2 : Loops Tryz.prog 0 (loopN Tryz.prog 93 1) ((I32 l x i i).as 104) (.exit 2) ((I32 l x' i j).as 104)) : FnOK Tryz.prog 93 ([.d (.sl (l.map ptD)), .d (ptD x)]) ([]) (.own 0 2) ([.row 2 ((l.take i ++ [x'] ++ l.drop j).map ptD)]) := by
 refine fnOK_wp (p := (rf (vL (List.map ptD l))) ∧ (rf (AV.ptr 1024 0)) ∧ (rf (AV.own 901 2)) ∧ (rf (vI 0)) ∧ (rf (Ob.box [vI x.a, vS x.d])) ∧ (rf (Ob.row 2 [])) ∧ (LoopsS Tryz.prog 0 (loopN Tryz.prog 93 0) (I32 l x 0 0) (Exit.exit 0) (I32 l x i i) 104) ∧ (rf (vL (List.map ptD l))) ∧ (rf (AV.ptr 0 0)) ∧ (rf (AV.own 1 2)) ∧ (rf (vI (↑i : Int))) ∧ (rf (Ob.box [vI x.a, vS x.d])) ∧ (rf (Ob.row 2 (List.map ptD (List.take i l)))) ∧ (LoopsS Tryz.prog 0 (loopN Tryz.prog 93 1) (I32 l x i i) (Exit.exit 2) (I32 l x' i j) 104) ∧ (((List.map ptD (List.take i l)).length + [D.agg (List.take 2 [D.int .i64 x'.a, D.str x'.d])].length) * 24 ≤ 140737488355328) ∧ (∀ (e : D), e ∈ chunk 2 1 [D.int .i64 x'.a, D.str x'.d] → e.cells.length = 2) ∧ ((0 : Int) ≤ (↑j : Int) ∧ (↑j : Int) ≤ (↑(List.map ptD l).length : Int) ∧ (↑(List.map ptD l).length : Int) ≤ (↑(List.map ptD l).length : Int)) ∧ (∀ (e : D), e ∈ List.map ptD l → e.cells.length = 2) ∧ (((List.map ptD (List.take i l) ++ [D.agg (List.take 2 [D.int .i64 x'.a, D.str x'.d])]).length + (List.drop (↑j : Int).toNat (List.take (↑(List.map ptD l).length : Int).toNat (List.map ptD l))).length) * 24 ≤ 140737488355328) ∧ (∀ (e : D), e ∈ List.drop (↑j : Int).toNat (List.take (↑(List.map ptD l).length : Int).toNat (List.map ptD l)) → e.cells.length = 2) ∧ (rf (AV.own 1824 2)) ∧ (Ob.row 2 (List.map ptD (List.take i l) ++ [D.agg (List.take 2 [D.int .i64 x'.a, D.str x'.d])] ++ List.drop (↑j : Int).toNat (List.take (↑(List.map ptD l).length : Int).toNat (List.map ptD l))) = Ob.row 2 (List.map ptD (List.take i l ++ [x'] ++ List.drop j l))) ∧ True) (h := {}) (subs := [⟨[], [], I32 l x 0 0, .exit 0, I32 l x i i⟩, ⟨[], [], I32 l x i i, .exit 2, I32 l x' i j⟩]) (ws := []) (ρ := []) (by kernel_rfl) ?_
 have t1 : List.drop ((j : Int)).toNat (List.take (((l.map ptD).length : Int)).toNat (l.map ptD)) = (l.drop j).map ptD := by rw [Int.toNat_natCast, Int.toNat_natCast, List.take_length, List.map_drop]
 simp only [t1]
 repeat' (with_reducible first|exact ⟨⟩|apply And.intro|(first|apply zA|apply zB|apply zC|apply zD|apply zE|apply zF|apply zG)<;>intro)
 all_goals first | exact h1 | exact h2 | rfl | omega | exact ptD_sz l | exact ptD_sz _ | (simp; omega) | (simp [chunk, ptD, D.cells]; done) | (simp [ptD]; done) | (simp; done) | skip
end Go.Proofs.YtalpfhpeaaocmaaGreat.C12
end
section
namespace Go.Proofs.YtalpfhpeaaocmaaGreat.C12
open Sx Go.RowKit
/-- Parts in order, each behind the one before. -/
def Srt : Int → List Pt → Prop
 | _, [] => True
 | e, x :: l => e < x.a ∧ Srt (pEnd x) l
theorem p1_spec : ∀ (l : List Pt) (x : Pt), p1 l x ≤ l.length ∧ (∀ j y, j < p1 l x → l[j]? = some y → pEnd y < x.a) ∧ (∀ y, l[p1 l x]? = some y → ¬pEnd y < x.a)
 | [], x => ⟨by simp [p1], fun j y h => by simp [p1] at h, fun y h => by simp at h⟩
 | z :: l, x => by
  obtain ⟨i1, i2, i3⟩ := p1_spec l x
  unfold p1 at *
  by_cases h : pEnd z < x.a
  ·rw [List.takeWhile_cons_of_pos (by simpa using h)]
   simp only [List.length_cons]
   refine ⟨by omega, fun j y hj hy => ?_, fun y hy => ?_⟩
   ·cases j with
    | zero => simp at hy; subst hy; exact h
    | succ j => exact i2 j y (by omega) (by simpa using hy)
   ·exact i3 y (by simpa using hy)
  ·rw [List.takeWhile_cons_of_neg (by simpa using h)]
   simp only [List.length_nil, List.length_cons]
   refine ⟨by omega, fun j y hj => by omega, fun y hy => ?_⟩
   simp at hy
   subst hy
   exact h
theorem l32a (l : List Pt) (hl : l.length < 1000000) (x : Pt) (sx : Sm x) (hs : ∀ y ∈ l, Sm y) : Loops Tryz.prog 0 (loopN Tryz.prog 93 0) ((I32 l x 0 0).as 104) (.exit 0) ((I32 l x (p1 l x) (p1 l x)).as 104) := by
 obtain ⟨h1, h2, h3⟩ := p1_spec l x
 refine loops_n (I := fun j => (I32 l x j j).as 104) (by simp) (p1 l x) 0 (by omega) (fun j _ hj => ?_) ?_
 ·have hjl : j < l.length := by omega
  exact r32 l hl x sx j j _ (hs _ (List.getElem_mem hjl)) (get_of hjl) (h2 j _ hj (get_of hjl))
 ·by_cases h : p1 l x < l.length
  ·exact e32 l hl x sx (p1 l x) (p1 l x) _ (hs _ (List.getElem_mem h)) (get_of h) (h3 _ (get_of h))
  ·have e : p1 l x = l.length := by omega
   rw [e]
   exact q32 l x
theorem mg_a (y x : Pt) : (mg y x).a = min y.a x.a := by
 unfold mg
 split
 ·show y.a = _; omega
 ·show x.a = _; omega
theorem mg_len (y x : Pt) : (mg y x).d.length ≤ x.d.length + y.d.length := by
 unfold mg mgCut
 split
 ·simp only [List.length_append, List.length_drop]; omega
 ·next h =>
  simp only [List.length_append, List.length_drop, List.length_take]
  unfold pEnd
  omega
theorem l32b (l : List Pt) (hl : l.length < 1000000) (i : Nat) : ∀ (m : List Pt) (j : Nat) (x : Pt), l.drop j = m → j ≤ l.length → (∀ y ∈ m, Sm y ∧ x.a ≤ pEnd y) → (0 ≤ x.a ∧ x.a ≤ 1099511627776) → x.d.length + sumD m < 1000000 →
  ∃ k, k ≤ l.length ∧ (jn2 x m).2 = l.drop k ∧ Loops Tryz.prog 0 (loopN Tryz.prog 93 1) ((I32 l x i j).as 104) (.exit 2) ((I32 l (jn2 x m).1 i k).as 104)
 | [], j, x, hd, hj, hy, ha, hs => by
  have hjl : j = l.length := by
   have : (l.drop j).length = 0 := by rw [hd]; rfl
   rw [List.length_drop] at this
   omega
  subst hjl
  exact ⟨_, Nat.le_refl _, by simp [jn2], .out (q32b l x i) (by simp)⟩
 | y :: r, j, x, hd, hj, hy, ha, hs => by
  obtain ⟨hn, hd2⟩ := drop_cons hd
  have hjl := get_lt hn
  rw [sumD_cons] at hs
  have sx : Sm x := ⟨ha, by omega⟩
  obtain ⟨sy, hye⟩ := hy y (List.mem_cons_self ..)
  unfold jn2
  by_cases h : y.a > pEnd x
  ·rw [if_pos h]
   exact ⟨j, hj, hd.symm, .out (z32 l hl x sx i j y sy hn h) (by simp)⟩
  ·rw [if_neg h]
   have hma := mg_a y x
   have hml := mg_len y x
   have sya := sy.a
   obtain ⟨k, k1, k2, k3⟩ := l32b l hl i r (j + 1) (mg y x) hd2 (by omega) (fun z hz => ⟨(hy z (List.mem_cons_of_mem _ hz)).1, by have := (hy z (List.mem_cons_of_mem _ hz)).2; omega⟩) (by omega) (by omega)
   refine ⟨k, k1, k2, ?_⟩
   by_cases h2 : y.a ≤ x.a
   ·exact .next (m32a l hl x sx i j y sy hn (by omega) h2 hye) k3
   ·exact .next (m32b l hl x sx i j y sy hn (by omega) h2 hye) k3
theorem srt_ge {a : Int} : ∀ {m : List Pt} {e : Int}, Srt e m → (∀ y, m[0]? = some y → a ≤ pEnd y) → ∀ y ∈ m, a ≤ pEnd y
 | [], e, _, _, y, hy => by cases hy
 | z :: r, e, h, h0, y, hy => by
  have hz := h0 z rfl
  rcases List.mem_cons.1 hy with rfl | hy
  ·exact hz
  ·refine srt_ge h.2 (fun w hw => ?_) y hy
   cases r with
   | nil => simp at hw
   | cons w' r' =>
    simp at hw
    subst hw
    have := h.2.1
    unfold pEnd at *
    omega
theorem srt_drop : ∀ (k : Nat) {l : List Pt} {e : Int}, Srt e l → ∃ e', Srt e' (l.drop k)
 | 0, l, e, h => ⟨e, by simpa using h⟩
 | k + 1, [], e, h => ⟨e, by simpa using h⟩
 | k + 1, x :: l, e, h => by rw [List.drop_succ_cons]; exact srt_drop k h.2
theorem sumD_drop (l : List Pt) (k : Nat) : sumD (l.drop k) ≤ sumD l := by
 have h := sumD_append (l.take k) (l.drop k)
 rw [List.take_append_drop] at h
 omega
theorem join32' (l : List Pt) (hl : l.length < 1000000) (e : Int) (hs : Srt e l) (x : Pt) (ha : 0 ≤ x.a ∧ x.a ≤ 1099511627776) (hd : x.d.length + sumD l < 1000000) (hsm : ∀ y ∈ l, Sm y) :
  FnOK Tryz.prog 93 [.d (.sl (l.map ptD)), .d (ptD x)] [] (.own 0 2) [.row 2 ((jn l x).map ptD)] := by
 obtain ⟨h1, h2, h3⟩ := p1_spec l x
 have hL := l32a l hl x ⟨ha, by omega⟩ hsm
 obtain ⟨e', he⟩ := srt_drop (p1 l x) hs
 have hge := srt_ge (a := x.a) he (fun y hy => by
  rw [List.getElem?_drop, Nat.add_zero] at hy
  have := h3 y hy
  omega)
 have hsd := sumD_drop l (p1 l x)
 obtain ⟨k, k1, k2, k3⟩ := l32b l hl (p1 l x) _ (p1 l x) x rfl h1 (fun y hy => ⟨hsm y (List.mem_of_mem_drop hy), hge y hy⟩) ha (by omega)
 have h := join32 l hl x _ (p1 l x) k h1 k1 hL k3
 unfold jn
 rw [k2]
 exact h
end Go.Proofs.YtalpfhpeaaocmaaGreat.C12
end
section
namespace Go.Proofs.YtalpfhpeaaocmaaGreat.C12
open Sx Go.RowKit
def rCut (s : Rq) (k : Int) (d : List UInt8) : Pt :=
 if k < s.b then ⟨s.b, (d.take (min (d.length : Int) (rLim s - k)).toNat).drop (min (((d.take (min (d.length : Int) (rLim s - k)).toNat).length : Int)) (s.b - k)).toNat⟩ else ⟨k, d.take (min (d.length : Int) (rLim s - k)).toNat⟩
def rTop (s : Rq) : List Pt → Rq
 | [] => s
 | f :: r => if f.a = s.b then ⟨pEnd f, s.r ++ f.d, r⟩ else ⟨s.b, s.r, f :: r⟩
def rPut (s : Rq) (k : Int) (d : List UInt8) : Rq × Int :=
 if k < 0 ∨ k > 1099511627776 ∨ rChk s ≠ 0 then (s, 0) else if k ≥ rLim s then (s, 0) else if (rCut s k d).d = [] then (s, 0)
 else (rTop s (jn s.p (rCut s k d)), (rHeld (rTop s (jn s.p (rCut s k d))) : Int) - rHeld s)
theorem put11a (s : Rq) (hb : Rb s) (hl : s.p.length < 1000000) (k : Int) (d : List UInt8) (hd : d.length < 1000000) (e : Int) (he : rChk s = e) (h : k < 0 ∨ k > 1099511627776 ∨ e ≠ 0) : FnOK Tryz.prog 62 ([.d (rqD s), .d (.int .i64 k), .d (.str d)]) ([]) (.tup [.d (rqD s), .d (.int .i64 0)]) ([]) := by
 refine fnOK_wp (p := (FnOK Tryz.prog 65 [vL (List.map ptD s.p)] [] (AV.own 0 2) [Ob.row 2 (List.map ptD s.p)]) ∧ (condP (decide (k < (0 : Int))) ((D.bool (decide (k < (0 : Int))) = D.bool true) ∧ (rf (D.bool true)) ∧ (rf (AV.tup [AV.d (rqD s), vI 0])) ∧ True) (condP (decide (k > (1099511627776 : Int))) ((D.bool (decide (k < (0 : Int))) = D.bool false) ∧ (D.bool (decide (k > (1099511627776 : Int))) = D.bool true) ∧ (rf (AV.tup [AV.d (rqD s), vI 0])) ∧ True) ((D.bool (decide (k < (0 : Int))) = D.bool false) ∧ (D.bool (decide (k > (1099511627776 : Int))) = D.bool false) ∧ (FnOK Tryz.prog 66 [AV.d (rqD s)] [] (vI e) []) ∧ (condP (e != (0 : Int)) ((rf (AV.tup [AV.d (rqD s), vI 0])) ∧ True) ((FnOK Tryz.prog 64 [AV.d (rqD s)] [] (vI 0) []) ∧ (condP (decide (k ≥ (0 : Int))) ((rf (AV.tup [AV.d (rqD s), vI 0])) ∧ True) (((0 : Int) ≤ (0 : Int) ∧ (0 : Int) ≤ min (↑d.length : Int) (IntKind.i64.wrap ((0 : Int) - k)) ∧ min (↑d.length : Int) (IntKind.i64.wrap ((0 : Int) - k)) ≤ (↑d.length : Int)) ∧ (condP (decide (k < s.b)) (((0 : Int) ≤ min (↑(List.drop (Int.toNat (0 : Int)) (List.take (min (↑d.length : Int) (IntKind.i64.wrap ((0 : Int) - k))).toNat d)).length : Int) (IntKind.i64.wrap (s.b - k)) ∧ min (↑(List.drop (Int.toNat (0 : Int)) (List.take (min (↑d.length : Int) (IntKind.i64.wrap ((0 : Int) - k))).toNat d)).length : Int) (IntKind.i64.wrap (s.b - k)) ≤ (↑(List.drop (Int.toNat (0 : Int)) (List.take (min (↑d.length : Int) (IntKind.i64.wrap ((0 : Int) - k))).toNat d)).length : Int) ∧ (↑(List.drop (Int.toNat (0 : Int)) (List.take (min (↑d.length : Int) (IntKind.i64.wrap ((0 : Int) - k))).toNat d)).length : Int) ≤ (↑(List.drop (Int.toNat (0 : Int)) (List.take (min (↑d.length : Int) (IntKind.i64.wrap ((0 : Int) - k))).toNat d)).length : Int)) ∧ (condP (List.drop (min (↑(List.drop 0 (List.take (min (↑d.length : Int) (IntKind.i64.wrap ((0 : Int) - k))).toNat d)).length : Int) (IntKind.i64.wrap (s.b - k))).toNat (List.take (↑(List.drop 0 (List.take (min (↑d.length : Int) (IntKind.i64.wrap ((0 : Int) - k))).toNat d)).length : Int).toNat (List.drop 0 (List.take (min (↑d.length : Int) (IntKind.i64.wrap ((0 : Int) - k))).toNat d))) == []) ((rf (AV.tup [AV.d (rqD s), vI 0])) ∧ True) (False))) (condP (List.drop 0 (List.take (min (↑d.length : Int) (IntKind.i64.wrap ((0 : Int) - k))).toNat d) == []) ((rf (AV.tup [AV.d (rqD s), vI 0])) ∧ True) (False))))))))))) (h := {H := [(1, [(2, .call [] (.own 0 2) [.row 2 (s.p.map ptD)])])], G := [(66, gAns (.d (.int .i64 e))), (64, gAns (.d (.int .i64 0)))]}) (subs := []) (ws := []) (ρ := []) (by kernel_rfl) ?_
 have k1 := chk17 s hb
 rw [he] at k1
 have k2 := ptD_clone s.p (by omega)
 repeat' (with_reducible first|exact ⟨⟩|apply And.intro|(first|apply zA|apply zB|apply zC|apply zD|apply zE|apply zF|apply zG)<;>intro)
 all_goals first | exact k1 | exact k2 | rfl | omega | exact dyes ‹_› | exact dno ‹_› | (refine congrArg D.bool ?_; assumption) | (refine congrArg D.bool ?_; simp; assumption) | (exfalso; simp_all; omega) | (exfalso; simp_all; done) | skip
theorem put11b (s : Rq) (hb : Rb s) (hl : s.p.length < 1000000) (k : Int) (d : List UInt8) (hd : d.length < 1000000) (he : rChk s = 0) (h1 : 0 ≤ k) (h2 : k ≤ 1099511627776) (lim : Int) (hlim : rLim s = lim) (h : k ≥ lim) : FnOK Tryz.prog 62 ([.d (rqD s), .d (.int .i64 k), .d (.str d)]) ([]) (.tup [.d (rqD s), .d (.int .i64 0)]) ([]) := by
 refine fnOK_wp (p := (FnOK Tryz.prog 65 [vL (List.map ptD s.p)] [] (AV.own 0 2) [Ob.row 2 (List.map ptD s.p)]) ∧ (D.bool (decide (k < (0 : Int))) = D.bool false) ∧ (rf (D.bool false)) ∧ (D.bool (decide (k > (1099511627776 : Int))) = D.bool false) ∧ (rf (D.bool false)) ∧ (FnOK Tryz.prog 66 [AV.d (rqD s)] [] (vI 0) []) ∧ (rf (D.bool false)) ∧ (FnOK Tryz.prog 64 [AV.d (rqD s)] [] (vI lim) []) ∧ (D.bool (decide (k ≥ lim)) = D.bool true) ∧ (rf (AV.tup [AV.d (rqD s), vI 0])) ∧ True) (h := {H := [(1, [(2, .call [] (.own 0 2) [.row 2 (s.p.map ptD)])]), (2, [(1, .val (.bool false)), (4, .val (.bool false)), (9, .val (.bool false))]), (5, [(2, .val (.bool true))])], G := [(66, gAns (.d (.int .i64 0))), (64, gAns (.d (.int .i64 lim)))]}) (subs := []) (ws := []) (ρ := []) (by kernel_rfl) ?_
 have hz := chk_zero he
 have hll := rLim_le s
 have k1 := chk17 s hb
 rw [he] at k1
 have k3 := lim26 s hz.1.1 hz.1.2.1 hb.r
 rw [hlim] at k3 hll
 have k2 := ptD_clone s.p (by omega)
 repeat' (with_reducible first|exact ⟨⟩|apply And.intro|(first|apply zA|apply zB|apply zC|apply zD|apply zE|apply zF|apply zG)<;>intro)
 all_goals first | exact k1 | exact k2 | exact k3 | rfl | exact dno (by omega) | exact dyes (by omega) | skip
theorem put11c (s : Rq) (hb : Rb s) (hl : s.p.length < 1000000) (k : Int) (d : List UInt8) (hd : d.length < 1000000) (he : rChk s = 0) (h1 : 0 ≤ k) (h2 : k ≤ 1099511627776) (lim : Int) (hlim : rLim s = lim) (h : ¬k ≥ lim) (hc : k < s.b) (d1 d2 : List UInt8) (e1 : d.take (min (d.length : Int) (lim - k)).toNat = d1) (e2 : d1.drop (min (d1.length : Int) (s.b - k)).toNat = d2) (h3 : d2 = []) : FnOK Tryz.prog 62 ([.d (rqD s), .d (.int .i64 k), .d (.str d)]) ([]) (.tup [.d (rqD s), .d (.int .i64 0)]) ([]) := by
 refine fnOK_wp (p := (FnOK Tryz.prog 65 [vL (List.map ptD s.p)] [] (AV.own 0 2) [Ob.row 2 (List.map ptD s.p)]) ∧ (D.bool (decide (k < (0 : Int))) = D.bool false) ∧ (rf (D.bool false)) ∧ (D.bool (decide (k > (1099511627776 : Int))) = D.bool false) ∧ (rf (D.bool false)) ∧ (FnOK Tryz.prog 66 [AV.d (rqD s)] [] (vI 0) []) ∧ (rf (D.bool false)) ∧ (FnOK Tryz.prog 64 [AV.d (rqD s)] [] (vI lim) []) ∧ (D.bool (decide (k ≥ lim)) = D.bool false) ∧ ((0 : Int) ≤ (0 : Int) ∧ (0 : Int) ≤ min (↑d.length : Int) (IntKind.i64.wrap (lim - k)) ∧ min (↑d.length : Int) (IntKind.i64.wrap (lim - k)) ≤ (↑d.length : Int)) ∧ (D.bool (decide (k < s.b)) = D.bool true) ∧ ((0 : Int) ≤ min (↑(List.drop (Int.toNat (0 : Int)) (List.take (min (↑d.length : Int) (IntKind.i64.wrap (lim - k))).toNat d)).length : Int) (IntKind.i64.wrap (s.b - k)) ∧ min (↑(List.drop (Int.toNat (0 : Int)) (List.take (min (↑d.length : Int) (IntKind.i64.wrap (lim - k))).toNat d)).length : Int) (IntKind.i64.wrap (s.b - k)) ≤ (↑(List.drop (Int.toNat (0 : Int)) (List.take (min (↑d.length : Int) (IntKind.i64.wrap (lim - k))).toNat d)).length : Int) ∧ (↑(List.drop (Int.toNat (0 : Int)) (List.take (min (↑d.length : Int) (IntKind.i64.wrap (lim - k))).toNat d)).length : Int) ≤ (↑(List.drop (Int.toNat (0 : Int)) (List.take (min (↑d.length : Int) (IntKind.i64.wrap (lim - k))).toNat d)).length : Int)) ∧ (D.bool (List.drop (min (↑(List.drop 0 (List.take (min (↑d.length : Int) (IntKind.i64.wrap (lim - k))).toNat d)).length : Int) (IntKind.i64.wrap (s.b - k))).toNat (List.take (↑(List.drop 0 (List.take (min (↑d.length : Int) (IntKind.i64.wrap (lim - k))).toNat d)).length : Int).toNat (List.drop 0 (List.take (min (↑d.length : Int) (IntKind.i64.wrap (lim - k))).toNat d))) == []) = D.bool true) ∧ (rf (AV.tup [AV.d (rqD s), vI 0])) ∧ True) (h := {H := [(1, [(2, .call [] (.own 0 2) [.row 2 (s.p.map ptD)])]), (2, [(1, .val (.bool false)), (4, .val (.bool false)), (9, .val (.bool false))]), (5, [(2, .val (.bool false))]), (8, [(3, .val (.bool true))]), (11, [(1, .val (.bool true))])], G := [(66, gAns (.d (.int .i64 0))), (64, gAns (.d (.int .i64 lim)))]}) (subs := []) (ws := []) (ρ := []) (by kernel_rfl) ?_
 have hz := chk_zero he
 have hll := rLim_le s
 have k1 := chk17 s hb
 rw [he] at k1
 have k3 := lim26 s hz.1.1 hz.1.2.1 hb.r
 rw [hlim] at k3 hll
 have k2 := ptD_clone s.p (by omega)
 have w1 : IntKind.i64.wrap (lim - k) = lim - k := by rw [IntKind.wrap_i64]; omega
 have w2 : IntKind.i64.wrap (s.b - k) = s.b - k := by rw [IntKind.wrap_i64]; omega
 simp only [List.length_map, w1, w2, List.drop_zero]
 have t1 : List.take ((d1.length : Int)).toNat d1 = d1 := List.take_length
 simp only [e1, e2, t1]
 repeat' (with_reducible first|exact ⟨⟩|apply And.intro|(first|apply zA|apply zB|apply zC|apply zD|apply zE|apply zF|apply zG)<;>intro)
 all_goals first | exact k1 | exact k2 | exact k3 | rfl | omega | exact dno (by omega) | exact dyes (by omega) | exact dyes h3 | exact dno h3 | (refine congrArg D.bool ?_; simp [h3]; done) | skip
theorem put11d (s : Rq) (hb : Rb s) (hl : s.p.length < 1000000) (k : Int) (d : List UInt8) (hd : d.length < 1000000) (he : rChk s = 0) (h1 : 0 ≤ k) (h2 : k ≤ 1099511627776) (lim : Int) (hlim : rLim s = lim) (h : ¬k ≥ lim) (hc : ¬k < s.b) (d1 : List UInt8) (e1 : d.take (min (d.length : Int) (lim - k)).toNat = d1) (h3 : d1 = []) : FnOK Tryz.prog 62 ([.d (rqD s), .d (.int .i64 k), .d (.str d)]) ([]) (.tup [.d (rqD s), .d (.int .i64 0)]) ([]) := by
 refine fnOK_wp (p := (FnOK Tryz.prog 65 [vL (List.map ptD s.p)] [] (AV.own 0 2) [Ob.row 2 (List.map ptD s.p)]) ∧ (D.bool (decide (k < (0 : Int))) = D.bool false) ∧ (rf (D.bool false)) ∧ (D.bool (decide (k > (1099511627776 : Int))) = D.bool false) ∧ (rf (D.bool false)) ∧ (FnOK Tryz.prog 66 [AV.d (rqD s)] [] (vI 0) []) ∧ (rf (D.bool false)) ∧ (FnOK Tryz.prog 64 [AV.d (rqD s)] [] (vI lim) []) ∧ (D.bool (decide (k ≥ lim)) = D.bool false) ∧ ((0 : Int) ≤ (0 : Int) ∧ (0 : Int) ≤ min (↑d.length : Int) (IntKind.i64.wrap (lim - k)) ∧ min (↑d.length : Int) (IntKind.i64.wrap (lim - k)) ≤ (↑d.length : Int)) ∧ (D.bool (decide (k < s.b)) = D.bool false) ∧ (D.bool (List.drop 0 (List.take (min (↑d.length : Int) (IntKind.i64.wrap (lim - k))).toNat d) == []) = D.bool true) ∧ (rf (AV.tup [AV.d (rqD s), vI 0])) ∧ True) (h := {H := [(1, [(2, .call [] (.own 0 2) [.row 2 (s.p.map ptD)])]), (2, [(1, .val (.bool false)), (4, .val (.bool false)), (9, .val (.bool false))]), (5, [(2, .val (.bool false))]), (8, [(3, .val (.bool false))]), (11, [(1, .val (.bool true))])], G := [(66, gAns (.d (.int .i64 0))), (64, gAns (.d (.int .i64 lim)))]}) (subs := []) (ws := []) (ρ := []) (by kernel_rfl) ?_
 have hz := chk_zero he
 have hll := rLim_le s
 have k1 := chk17 s hb
 rw [he] at k1
 have k3 := lim26 s hz.1.1 hz.1.2.1 hb.r
 rw [hlim] at k3 hll
 have k2 := ptD_clone s.p (by omega)
 have w1 : IntKind.i64.wrap (lim - k) = lim - k := by rw [IntKind.wrap_i64]; omega
 have w2 : IntKind.i64.wrap (s.b - k) = s.b - k := by rw [IntKind.wrap_i64]; omega
 simp only [List.length_map, w1, w2, List.drop_zero]
 simp only [e1]
 repeat' (with_reducible first|exact ⟨⟩|apply And.intro|(first|apply zA|apply zB|apply zC|apply zD|apply zE|apply zF|apply zG)<;>intro)
 all_goals first | exact k1 | exact k2 | exact k3 | rfl | omega | exact dno (by omega) | exact dyes (by omega) | exact dyes h3 | exact dno h3 | (refine congrArg D.bool ?_; simp [h3]; done) | skip
theorem put11e (s : Rq) (hb : Rb s) (hl : s.p.length < 1000000) (k : Int) (d : List UInt8) (hd : d.length < 1000000) (he : rChk s = 0) (h1 : 0 ≤ k) (h2 : k ≤ 1099511627776) (lim : Int) (hlim : rLim s = lim) (h : ¬k ≥ lim) (hc : k < s.b) (d1 : List UInt8) (e1 : d.take (min (d.length : Int) (lim - k)).toNat = d1) (d2 : List UInt8) (e2 : d1.drop (min (d1.length : Int) (s.b - k)).toNat = d2) (h3 : d2 ≠ []) (x : Pt) (f : Pt) (r : List Pt) (hj : jn s.p x = f :: r) (k5 : FnOK Tryz.prog 93 [.d (.sl (s.p.map ptD)), .d (ptD x)] [] (.own 0 2) [.row 2 (ptD f :: r.map ptD)]) (n0 n1 : Int) (k6 : FnOK Tryz.prog 92 [.d (rqD s)] [] (.d (.int .i64 n0)) []) (hn0 : 0 ≤ n0 ∧ n0 < 1000000000) (hn1 : 0 ≤ n1 ∧ n1 < 1000000000) (hrl : r.length < 1000000) (hfe : IntKind.i64.wrap (pEnd f) = pEnd f) (hrf : s.r.length + f.d.length < 1000000) (hx : x = ⟨s.b, d2⟩) (hf : f.a = s.b) (k7 : FnOK Tryz.prog 92 [.d (rqD ⟨pEnd f, s.r ++ f.d, r⟩)] [] (.d (.int .i64 n1)) []) : FnOK Tryz.prog 62 ([.d (rqD s), .d (.int .i64 k), .d (.str d)]) ([]) (.tup [.d (rqD ⟨pEnd f, s.r ++ f.d, r⟩), .d (.int .i64 (n1 - n0))]) ([]) := by
 refine fnOK_wp (p := (FnOK Tryz.prog 65 [vL (List.map ptD s.p)] [] (AV.own 0 2) [Ob.row 2 (List.map ptD s.p)]) ∧ (D.bool (decide (k < (0 : Int))) = D.bool false) ∧ (rf (D.bool false)) ∧ (D.bool (decide (k > (1099511627776 : Int))) = D.bool false) ∧ (rf (D.bool false)) ∧ (FnOK Tryz.prog 66 [AV.d (rqD s)] [] (vI 0) []) ∧ (rf (D.bool false)) ∧ (FnOK Tryz.prog 64 [AV.d (rqD s)] [] (vI lim) []) ∧ (D.bool (decide (k ≥ lim)) = D.bool false) ∧ ((0 : Int) ≤ (0 : Int) ∧ (0 : Int) ≤ min (↑d.length : Int) (IntKind.i64.wrap (lim - k)) ∧ min (↑d.length : Int) (IntKind.i64.wrap (lim - k)) ≤ (↑d.length : Int)) ∧ (D.bool (decide (k < s.b)) = D.bool true) ∧ ((0 : Int) ≤ min (↑(List.drop (Int.toNat (0 : Int)) (List.take (min (↑d.length : Int) (IntKind.i64.wrap (lim - k))).toNat d)).length : Int) (IntKind.i64.wrap (s.b - k)) ∧ min (↑(List.drop (Int.toNat (0 : Int)) (List.take (min (↑d.length : Int) (IntKind.i64.wrap (lim - k))).toNat d)).length : Int) (IntKind.i64.wrap (s.b - k)) ≤ (↑(List.drop (Int.toNat (0 : Int)) (List.take (min (↑d.length : Int) (IntKind.i64.wrap (lim - k))).toNat d)).length : Int) ∧ (↑(List.drop (Int.toNat (0 : Int)) (List.take (min (↑d.length : Int) (IntKind.i64.wrap (lim - k))).toNat d)).length : Int) ≤ (↑(List.drop (Int.toNat (0 : Int)) (List.take (min (↑d.length : Int) (IntKind.i64.wrap (lim - k))).toNat d)).length : Int)) ∧ (D.bool (List.drop (min (↑(List.drop 0 (List.take (min (↑d.length : Int) (IntKind.i64.wrap (lim - k))).toNat d)).length : Int) (IntKind.i64.wrap (s.b - k))).toNat (List.take (↑(List.drop 0 (List.take (min (↑d.length : Int) (IntKind.i64.wrap (lim - k))).toNat d)).length : Int).toNat (List.drop 0 (List.take (min (↑d.length : Int) (IntKind.i64.wrap (lim - k))).toNat d))) == []) = D.bool false) ∧ (FnOK Tryz.prog 92 [AV.d (rqD s)] [] (vI n0) []) ∧ (FnOK Tryz.prog 93 [vL (List.map ptD s.p), AV.d (.agg [D.int .i64 s.b, D.str (List.drop (min (↑(List.drop 0 (List.take (min (↑d.length : Int) (IntKind.i64.wrap (lim - k))).toNat d)).length : Int) (IntKind.i64.wrap (s.b - k))).toNat (List.take (↑(List.drop 0 (List.take (min (↑d.length : Int) (IntKind.i64.wrap (lim - k))).toNat d)).length : Int).toNat (List.drop 0 (List.take (min (↑d.length : Int) (IntKind.i64.wrap (lim - k))).toNat d))))])] [] (AV.own 0 2) [Ob.row 2 (ptD f :: List.map ptD r)]) ∧ ((0 : Int) ≤ (0 : Int) ∧ (0 : Int) < (↑(ptD f :: List.map ptD r).length : Int)) ∧ (2 = 2) ∧ (some (ptD f) = some (ptD f)) ∧ (D.bool (f.a == s.b) = D.bool true) ∧ (FnOK Tryz.prog 94 [AV.d (ptD f)] [] (vI (pEnd f)) []) ∧ ((↑(s.r.length + f.d.length) : Int) ≤ (9223372036854775807 : Int)) ∧ (FnOK Tryz.prog 95 [AV.own 0 2, vI 0, vI 1] [Ob.row 2 (ptD f :: List.map ptD r)] (AV.sub 0 2 0 r.length) [Ob.row 2 (List.map ptD r ++ [ptD (Pt.mk (0 : Int) [])])]) ∧ (FnOK Tryz.prog 92 [AV.d (.agg [D.int .i64 (pEnd f), D.str (s.r ++ f.d), D.sl (List.take r.length (List.drop 0 (List.map ptD r ++ [ptD (Pt.mk (0 : Int) [])])))])] [] (vI n1) []) ∧ (AV.tup [AV.d (.agg [D.int .i64 (pEnd f), D.str (s.r ++ f.d), D.sl (List.take r.length (List.drop 0 (List.map ptD r ++ [ptD (Pt.mk (0 : Int) [])])))]), vI (IntKind.i64.wrap (n1 - n0))] = AV.tup [AV.d (.agg [D.int .i64 (pEnd f), D.str (s.r ++ f.d), D.sl (List.map ptD r)]), vI (n1 - n0)]) ∧ True) (h := {H := [(1, [(2, .call [] (.own 0 2) [.row 2 (s.p.map ptD)])]), (2, [(1, .val (.bool false)), (4, .val (.bool false)), (9, .val (.bool false))]), (5, [(2, .val (.bool false))]), (8, [(3, .val (.bool true))]), (11, [(1, .val (.bool false))]), (13, [(1, .call [] (.d (.int .i64 n0)) [])]), (14, [(5, .call [] (.own 0 2) [.row 2 (ptD f :: r.map ptD)])]), (16, [(4, .val (.bool true))]), (17, [(1, .call [] (.d (.int .i64 (pEnd f))) [])]), (18, [(2, .call [1528] (.sub 0 2 0 r.length) [.row 2 (r.map ptD ++ [ptD ⟨0, []⟩])])]), (19, [(2, .call [] (.d (.int .i64 n1)) [])])], W := [(14, [.freeze 1104])], els := [(70, .el (ptD f))], G := [(66, gAns (.d (.int .i64 0))), (64, gAns (.d (.int .i64 lim)))]}) (subs := []) (ws := []) (ρ := []) (by kernel_rfl) ?_
 have hz := chk_zero he
 have hll := rLim_le s
 have k1 := chk17 s hb
 rw [he] at k1
 have k3 := lim26 s hz.1.1 hz.1.2.1 hb.r
 rw [hlim] at k3 hll
 have k2 := ptD_clone s.p (by omega)
 have w1 : IntKind.i64.wrap (lim - k) = lim - k := by rw [IntKind.wrap_i64]; omega
 have w2 : IntKind.i64.wrap (s.b - k) = s.b - k := by rw [IntKind.wrap_i64]; omega
 simp only [List.length_map, w1, w2, List.drop_zero]
 have t1 : List.take ((d1.length : Int)).toNat d1 = d1 := List.take_length
 simp only [e1, e2, t1]
 subst hx
 have k4 := end33 f hfe
 try subst hfr
 have k8 := del34 f r hrl
 have t2 : List.take r.length (List.map ptD r ++ [ptD ⟨0, []⟩]) = List.map ptD r := by simp
 have w3 : IntKind.i64.wrap (n1 - n0) = n1 - n0 := by rw [IntKind.wrap_i64]; omega
 simp only [List.length_cons, List.length_map, List.drop_zero, t2, w3]
 repeat' (with_reducible first|exact ⟨⟩|apply And.intro|(first|apply zA|apply zB|apply zC|apply zD|apply zE|apply zF|apply zG)<;>intro)
 all_goals first | exact k1 | exact k2 | exact k3 | exact k4 | exact k5 | exact k6 | exact k7 | exact k8 | rfl | omega | exact dno (by omega) | exact dyes (by omega) | exact dno h3 | (simp; omega) | skip
theorem put11f (s : Rq) (hb : Rb s) (hl : s.p.length < 1000000) (k : Int) (d : List UInt8) (hd : d.length < 1000000) (he : rChk s = 0) (h1 : 0 ≤ k) (h2 : k ≤ 1099511627776) (lim : Int) (hlim : rLim s = lim) (h : ¬k ≥ lim) (hc : k < s.b) (d1 : List UInt8) (e1 : d.take (min (d.length : Int) (lim - k)).toNat = d1) (d2 : List UInt8) (e2 : d1.drop (min (d1.length : Int) (s.b - k)).toNat = d2) (h3 : d2 ≠ []) (x : Pt) (f : Pt) (r : List Pt) (hj : jn s.p x = f :: r) (k5 : FnOK Tryz.prog 93 [.d (.sl (s.p.map ptD)), .d (ptD x)] [] (.own 0 2) [.row 2 (ptD f :: r.map ptD)]) (n0 n1 : Int) (k6 : FnOK Tryz.prog 92 [.d (rqD s)] [] (.d (.int .i64 n0)) []) (hn0 : 0 ≤ n0 ∧ n0 < 1000000000) (hn1 : 0 ≤ n1 ∧ n1 < 1000000000) (hrl : r.length < 1000000) (hfe : IntKind.i64.wrap (pEnd f) = pEnd f) (hrf : s.r.length + f.d.length < 1000000) (hx : x = ⟨s.b, d2⟩) (hf : f.a ≠ s.b) (fr : List Pt) (hfr : List.cons f r = fr) (k7 : FnOK Tryz.prog 92 [.d (rqD ⟨s.b, s.r, fr⟩)] [] (.d (.int .i64 n1)) []) : FnOK Tryz.prog 62 ([.d (rqD s), .d (.int .i64 k), .d (.str d)]) ([]) (.tup [.d (rqD ⟨s.b, s.r, fr⟩), .d (.int .i64 (n1 - n0))]) ([]) := by
 refine fnOK_wp (p := (FnOK Tryz.prog 65 [vL (List.map ptD s.p)] [] (AV.own 0 2) [Ob.row 2 (List.map ptD s.p)]) ∧ (D.bool (decide (k < (0 : Int))) = D.bool false) ∧ (rf (D.bool false)) ∧ (D.bool (decide (k > (1099511627776 : Int))) = D.bool false) ∧ (rf (D.bool false)) ∧ (FnOK Tryz.prog 66 [AV.d (rqD s)] [] (vI 0) []) ∧ (rf (D.bool false)) ∧ (FnOK Tryz.prog 64 [AV.d (rqD s)] [] (vI lim) []) ∧ (D.bool (decide (k ≥ lim)) = D.bool false) ∧ ((0 : Int) ≤ (0 : Int) ∧ (0 : Int) ≤ min (↑d.length : Int) (IntKind.i64.wrap (lim - k)) ∧ min (↑d.length : Int) (IntKind.i64.wrap (lim - k)) ≤ (↑d.length : Int)) ∧ (D.bool (decide (k < s.b)) = D.bool true) ∧ ((0 : Int) ≤ min (↑(List.drop (Int.toNat (0 : Int)) (List.take (min (↑d.length : Int) (IntKind.i64.wrap (lim - k))).toNat d)).length : Int) (IntKind.i64.wrap (s.b - k)) ∧ min (↑(List.drop (Int.toNat (0 : Int)) (List.take (min (↑d.length : Int) (IntKind.i64.wrap (lim - k))).toNat d)).length : Int) (IntKind.i64.wrap (s.b - k)) ≤ (↑(List.drop (Int.toNat (0 : Int)) (List.take (min (↑d.length : Int) (IntKind.i64.wrap (lim - k))).toNat d)).length : Int) ∧ (↑(List.drop (Int.toNat (0 : Int)) (List.take (min (↑d.length : Int) (IntKind.i64.wrap (lim - k))).toNat d)).length : Int) ≤ (↑(List.drop (Int.toNat (0 : Int)) (List.take (min (↑d.length : Int) (IntKind.i64.wrap (lim - k))).toNat d)).length : Int)) ∧ (D.bool (List.drop (min (↑(List.drop 0 (List.take (min (↑d.length : Int) (IntKind.i64.wrap (lim - k))).toNat d)).length : Int) (IntKind.i64.wrap (s.b - k))).toNat (List.take (↑(List.drop 0 (List.take (min (↑d.length : Int) (IntKind.i64.wrap (lim - k))).toNat d)).length : Int).toNat (List.drop 0 (List.take (min (↑d.length : Int) (IntKind.i64.wrap (lim - k))).toNat d))) == []) = D.bool false) ∧ (FnOK Tryz.prog 92 [AV.d (rqD s)] [] (vI n0) []) ∧ (FnOK Tryz.prog 93 [vL (List.map ptD s.p), AV.d (.agg [D.int .i64 s.b, D.str (List.drop (min (↑(List.drop 0 (List.take (min (↑d.length : Int) (IntKind.i64.wrap (lim - k))).toNat d)).length : Int) (IntKind.i64.wrap (s.b - k))).toNat (List.take (↑(List.drop 0 (List.take (min (↑d.length : Int) (IntKind.i64.wrap (lim - k))).toNat d)).length : Int).toNat (List.drop 0 (List.take (min (↑d.length : Int) (IntKind.i64.wrap (lim - k))).toNat d))))])] [] (AV.own 0 2) [Ob.row 2 (ptD f :: List.map ptD r)]) ∧ ((0 : Int) ≤ (0 : Int) ∧ (0 : Int) < (↑(ptD f :: List.map ptD r).length : Int)) ∧ (2 = 2) ∧ (some (ptD f) = some (ptD f)) ∧ (D.bool (f.a == s.b) = D.bool false) ∧ (FnOK Tryz.prog 92 [AV.d (.agg [D.int .i64 s.b, D.str s.r, D.sl (ptD f :: List.map ptD r)])] [] (vI n1) []) ∧ (AV.tup [AV.d (.agg [D.int .i64 s.b, D.str s.r, D.sl (ptD f :: List.map ptD r)]), vI (IntKind.i64.wrap (n1 - n0))] = AV.tup [AV.d (.agg [D.int .i64 s.b, D.str s.r, D.sl (List.map ptD fr)]), vI (n1 - n0)]) ∧ True) (h := {H := [(1, [(2, .call [] (.own 0 2) [.row 2 (s.p.map ptD)])]), (2, [(1, .val (.bool false)), (4, .val (.bool false)), (9, .val (.bool false))]), (5, [(2, .val (.bool false))]), (8, [(3, .val (.bool true))]), (11, [(1, .val (.bool false))]), (13, [(1, .call [] (.d (.int .i64 n0)) [])]), (14, [(5, .call [] (.own 0 2) [.row 2 (ptD f :: r.map ptD)])]), (16, [(4, .val (.bool false))]), (19, [(2, .call [] (.d (.int .i64 n1)) [])])], W := [(14, [.freeze 1104])], els := [(70, .el (ptD f))], G := [(66, gAns (.d (.int .i64 0))), (64, gAns (.d (.int .i64 lim)))]}) (subs := []) (ws := []) (ρ := []) (by kernel_rfl) ?_
 have hz := chk_zero he
 have hll := rLim_le s
 have k1 := chk17 s hb
 rw [he] at k1
 have k3 := lim26 s hz.1.1 hz.1.2.1 hb.r
 rw [hlim] at k3 hll
 have k2 := ptD_clone s.p (by omega)
 have w1 : IntKind.i64.wrap (lim - k) = lim - k := by rw [IntKind.wrap_i64]; omega
 have w2 : IntKind.i64.wrap (s.b - k) = s.b - k := by rw [IntKind.wrap_i64]; omega
 simp only [List.length_map, w1, w2, List.drop_zero]
 have t1 : List.take ((d1.length : Int)).toNat d1 = d1 := List.take_length
 simp only [e1, e2, t1]
 subst hx
 have k4 := end33 f hfe
 try subst hfr
 have k8 := del34 f r hrl
 have t2 : List.take r.length (List.map ptD r ++ [ptD ⟨0, []⟩]) = List.map ptD r := by simp
 have w3 : IntKind.i64.wrap (n1 - n0) = n1 - n0 := by rw [IntKind.wrap_i64]; omega
 simp only [List.length_cons, List.length_map, List.drop_zero, t2, w3]
 repeat' (with_reducible first|exact ⟨⟩|apply And.intro|(first|apply zA|apply zB|apply zC|apply zD|apply zE|apply zF|apply zG)<;>intro)
 all_goals first | exact k1 | exact k2 | exact k3 | exact k4 | exact k5 | exact k6 | exact k7 | exact k8 | rfl | omega | exact dno (by omega) | exact dyes (by omega) | exact dno h3 | (simp; omega) | skip
theorem put11g (s : Rq) (hb : Rb s) (hl : s.p.length < 1000000) (k : Int) (d : List UInt8) (hd : d.length < 1000000) (he : rChk s = 0) (h1 : 0 ≤ k) (h2 : k ≤ 1099511627776) (lim : Int) (hlim : rLim s = lim) (h : ¬k ≥ lim) (hc : ¬k < s.b) (d1 : List UInt8) (e1 : d.take (min (d.length : Int) (lim - k)).toNat = d1) (h3 : d1 ≠ []) (x : Pt) (f : Pt) (r : List Pt) (hj : jn s.p x = f :: r) (k5 : FnOK Tryz.prog 93 [.d (.sl (s.p.map ptD)), .d (ptD x)] [] (.own 0 2) [.row 2 (ptD f :: r.map ptD)]) (n0 n1 : Int) (k6 : FnOK Tryz.prog 92 [.d (rqD s)] [] (.d (.int .i64 n0)) []) (hn0 : 0 ≤ n0 ∧ n0 < 1000000000) (hn1 : 0 ≤ n1 ∧ n1 < 1000000000) (hrl : r.length < 1000000) (hfe : IntKind.i64.wrap (pEnd f) = pEnd f) (hrf : s.r.length + f.d.length < 1000000) (hx : x = ⟨k, d1⟩) (hf : f.a = s.b) (k7 : FnOK Tryz.prog 92 [.d (rqD ⟨pEnd f, s.r ++ f.d, r⟩)] [] (.d (.int .i64 n1)) []) : FnOK Tryz.prog 62 ([.d (rqD s), .d (.int .i64 k), .d (.str d)]) ([]) (.tup [.d (rqD ⟨pEnd f, s.r ++ f.d, r⟩), .d (.int .i64 (n1 - n0))]) ([]) := by
 refine fnOK_wp (p := (FnOK Tryz.prog 65 [vL (List.map ptD s.p)] [] (AV.own 0 2) [Ob.row 2 (List.map ptD s.p)]) ∧ (D.bool (decide (k < (0 : Int))) = D.bool false) ∧ (rf (D.bool false)) ∧ (D.bool (decide (k > (1099511627776 : Int))) = D.bool false) ∧ (rf (D.bool false)) ∧ (FnOK Tryz.prog 66 [AV.d (rqD s)] [] (vI 0) []) ∧ (rf (D.bool false)) ∧ (FnOK Tryz.prog 64 [AV.d (rqD s)] [] (vI lim) []) ∧ (D.bool (decide (k ≥ lim)) = D.bool false) ∧ ((0 : Int) ≤ (0 : Int) ∧ (0 : Int) ≤ min (↑d.length : Int) (IntKind.i64.wrap (lim - k)) ∧ min (↑d.length : Int) (IntKind.i64.wrap (lim - k)) ≤ (↑d.length : Int)) ∧ (D.bool (decide (k < s.b)) = D.bool false) ∧ (D.bool (List.drop 0 (List.take (min (↑d.length : Int) (IntKind.i64.wrap (lim - k))).toNat d) == []) = D.bool false) ∧ (FnOK Tryz.prog 92 [AV.d (rqD s)] [] (vI n0) []) ∧ (FnOK Tryz.prog 93 [vL (List.map ptD s.p), AV.d (.agg [D.int .i64 k, D.str (List.drop 0 (List.take (min (↑d.length : Int) (IntKind.i64.wrap (lim - k))).toNat d))])] [] (AV.own 0 2) [Ob.row 2 (ptD f :: List.map ptD r)]) ∧ ((0 : Int) ≤ (0 : Int) ∧ (0 : Int) < (↑(ptD f :: List.map ptD r).length : Int)) ∧ (2 = 2) ∧ (some (ptD f) = some (ptD f)) ∧ (D.bool (f.a == s.b) = D.bool true) ∧ (FnOK Tryz.prog 94 [AV.d (ptD f)] [] (vI (pEnd f)) []) ∧ ((↑(s.r.length + f.d.length) : Int) ≤ (9223372036854775807 : Int)) ∧ (FnOK Tryz.prog 95 [AV.own 0 2, vI 0, vI 1] [Ob.row 2 (ptD f :: List.map ptD r)] (AV.sub 0 2 0 r.length) [Ob.row 2 (List.map ptD r ++ [ptD (Pt.mk (0 : Int) [])])]) ∧ (FnOK Tryz.prog 92 [AV.d (.agg [D.int .i64 (pEnd f), D.str (s.r ++ f.d), D.sl (List.take r.length (List.drop 0 (List.map ptD r ++ [ptD (Pt.mk (0 : Int) [])])))])] [] (vI n1) []) ∧ (AV.tup [AV.d (.agg [D.int .i64 (pEnd f), D.str (s.r ++ f.d), D.sl (List.take r.length (List.drop 0 (List.map ptD r ++ [ptD (Pt.mk (0 : Int) [])])))]), vI (IntKind.i64.wrap (n1 - n0))] = AV.tup [AV.d (.agg [D.int .i64 (pEnd f), D.str (s.r ++ f.d), D.sl (List.map ptD r)]), vI (n1 - n0)]) ∧ True) (h := {H := [(1, [(2, .call [] (.own 0 2) [.row 2 (s.p.map ptD)])]), (2, [(1, .val (.bool false)), (4, .val (.bool false)), (9, .val (.bool false))]), (5, [(2, .val (.bool false))]), (8, [(3, .val (.bool false))]), (11, [(1, .val (.bool false))]), (13, [(1, .call [] (.d (.int .i64 n0)) [])]), (14, [(5, .call [] (.own 0 2) [.row 2 (ptD f :: r.map ptD)])]), (16, [(4, .val (.bool true))]), (17, [(1, .call [] (.d (.int .i64 (pEnd f))) [])]), (18, [(2, .call [1528] (.sub 0 2 0 r.length) [.row 2 (r.map ptD ++ [ptD ⟨0, []⟩])])]), (19, [(2, .call [] (.d (.int .i64 n1)) [])])], W := [(14, [.freeze 1104])], els := [(70, .el (ptD f))], G := [(66, gAns (.d (.int .i64 0))), (64, gAns (.d (.int .i64 lim)))]}) (subs := []) (ws := []) (ρ := []) (by kernel_rfl) ?_
 have hz := chk_zero he
 have hll := rLim_le s
 have k1 := chk17 s hb
 rw [he] at k1
 have k3 := lim26 s hz.1.1 hz.1.2.1 hb.r
 rw [hlim] at k3 hll
 have k2 := ptD_clone s.p (by omega)
 have w1 : IntKind.i64.wrap (lim - k) = lim - k := by rw [IntKind.wrap_i64]; omega
 have w2 : IntKind.i64.wrap (s.b - k) = s.b - k := by rw [IntKind.wrap_i64]; omega
 simp only [List.length_map, w1, w2, List.drop_zero]
 simp only [e1]
 subst hx
 have k4 := end33 f hfe
 try subst hfr
 have k8 := del34 f r hrl
 have t2 : List.take r.length (List.map ptD r ++ [ptD ⟨0, []⟩]) = List.map ptD r := by simp
 have w3 : IntKind.i64.wrap (n1 - n0) = n1 - n0 := by rw [IntKind.wrap_i64]; omega
 simp only [List.length_cons, List.length_map, List.drop_zero, t2, w3]
 repeat' (with_reducible first|exact ⟨⟩|apply And.intro|(first|apply zA|apply zB|apply zC|apply zD|apply zE|apply zF|apply zG)<;>intro)
 all_goals first | exact k1 | exact k2 | exact k3 | exact k4 | exact k5 | exact k6 | exact k7 | exact k8 | rfl | omega | exact dno (by omega) | exact dyes (by omega) | exact dno h3 | (simp; omega) | skip
theorem put11h (s : Rq) (hb : Rb s) (hl : s.p.length < 1000000) (k : Int) (d : List UInt8) (hd : d.length < 1000000) (he : rChk s = 0) (h1 : 0 ≤ k) (h2 : k ≤ 1099511627776) (lim : Int) (hlim : rLim s = lim) (h : ¬k ≥ lim) (hc : ¬k < s.b) (d1 : List UInt8) (e1 : d.take (min (d.length : Int) (lim - k)).toNat = d1) (h3 : d1 ≠ []) (x : Pt) (f : Pt) (r : List Pt) (hj : jn s.p x = f :: r) (k5 : FnOK Tryz.prog 93 [.d (.sl (s.p.map ptD)), .d (ptD x)] [] (.own 0 2) [.row 2 (ptD f :: r.map ptD)]) (n0 n1 : Int) (k6 : FnOK Tryz.prog 92 [.d (rqD s)] [] (.d (.int .i64 n0)) []) (hn0 : 0 ≤ n0 ∧ n0 < 1000000000) (hn1 : 0 ≤ n1 ∧ n1 < 1000000000) (hrl : r.length < 1000000) (hfe : IntKind.i64.wrap (pEnd f) = pEnd f) (hrf : s.r.length + f.d.length < 1000000) (hx : x = ⟨k, d1⟩) (hf : f.a ≠ s.b) (fr : List Pt) (hfr : List.cons f r = fr) (k7 : FnOK Tryz.prog 92 [.d (rqD ⟨s.b, s.r, fr⟩)] [] (.d (.int .i64 n1)) []) : FnOK Tryz.prog 62 ([.d (rqD s), .d (.int .i64 k), .d (.str d)]) ([]) (.tup [.d (rqD ⟨s.b, s.r, fr⟩), .d (.int .i64 (n1 - n0))]) ([]) := by
 refine fnOK_wp (p := (FnOK Tryz.prog 65 [vL (List.map ptD s.p)] [] (AV.own 0 2) [Ob.row 2 (List.map ptD s.p)]) ∧ (D.bool (decide (k < (0 : Int))) = D.bool false) ∧ (rf (D.bool false)) ∧ (D.bool (decide (k > (1099511627776 : Int))) = D.bool false) ∧ (rf (D.bool false)) ∧ (FnOK Tryz.prog 66 [AV.d (rqD s)] [] (vI 0) []) ∧ (rf (D.bool false)) ∧ (FnOK Tryz.prog 64 [AV.d (rqD s)] [] (vI lim) []) ∧ (D.bool (decide (k ≥ lim)) = D.bool false) ∧ ((0 : Int) ≤ (0 : Int) ∧ (0 : Int) ≤ min (↑d.length : Int) (IntKind.i64.wrap (lim - k)) ∧ min (↑d.length : Int) (IntKind.i64.wrap (lim - k)) ≤ (↑d.length : Int)) ∧ (D.bool (decide (k < s.b)) = D.bool false) ∧ (D.bool (List.drop 0 (List.take (min (↑d.length : Int) (IntKind.i64.wrap (lim - k))).toNat d) == []) = D.bool false) ∧ (FnOK Tryz.prog 92 [AV.d (rqD s)] [] (vI n0) []) ∧ (FnOK Tryz.prog 93 [vL (List.map ptD s.p), AV.d (.agg [D.int .i64 k, D.str (List.drop 0 (List.take (min (↑d.length : Int) (IntKind.i64.wrap (lim - k))).toNat d))])] [] (AV.own 0 2) [Ob.row 2 (ptD f :: List.map ptD r)]) ∧ ((0 : Int) ≤ (0 : Int) ∧ (0 : Int) < (↑(ptD f :: List.map ptD r).length : Int)) ∧ (2 = 2) ∧ (some (ptD f) = some (ptD f)) ∧ (D.bool (f.a == s.b) = D.bool false) ∧ (FnOK Tryz.prog 92 [AV.d (.agg [D.int .i64 s.b, D.str s.r, D.sl (ptD f :: List.map ptD r)])] [] (vI n1) []) ∧ (AV.tup [AV.d (.agg [D.int .i64 s.b, D.str s.r, D.sl (ptD f :: List.map ptD r)]), vI (IntKind.i64.wrap (n1 - n0))] = AV.tup [AV.d (.agg [D.int .i64 s.b, D.str s.r, D.sl (List.map ptD fr)]), vI (n1 - n0)]) ∧ True) (h := {H := [(1, [(2, .call [] (.own 0 2) [.row 2 (s.p.map ptD)])]), (2, [(1, .val (.bool false)), (4, .val (.bool false)), (9, .val (.bool false))]), (5, [(2, .val (.bool false))]), (8, [(3, .val (.bool false))]), (11, [(1, .val (.bool false))]), (13, [(1, .call [] (.d (.int .i64 n0)) [])]), (14, [(5, .call [] (.own 0 2) [.row 2 (ptD f :: r.map ptD)])]), (16, [(4, .val (.bool false))]), (19, [(2, .call [] (.d (.int .i64 n1)) [])])], W := [(14, [.freeze 1104])], els := [(70, .el (ptD f))], G := [(66, gAns (.d (.int .i64 0))), (64, gAns (.d (.int .i64 lim)))]}) (subs := []) (ws := []) (ρ := []) (by kernel_rfl) ?_
 have hz := chk_zero he
 have hll := rLim_le s
 have k1 := chk17 s hb
 rw [he] at k1
 have k3 := lim26 s hz.1.1 hz.1.2.1 hb.r
 rw [hlim] at k3 hll
 have k2 := ptD_clone s.p (by omega)
 have w1 : IntKind.i64.wrap (lim - k) = lim - k := by rw [IntKind.wrap_i64]; omega
 have w2 : IntKind.i64.wrap (s.b - k) = s.b - k := by rw [IntKind.wrap_i64]; omega
 simp only [List.length_map, w1, w2, List.drop_zero]
 simp only [e1]
 subst hx
 have k4 := end33 f hfe
 try subst hfr
 have k8 := del34 f r hrl
 have t2 : List.take r.length (List.map ptD r ++ [ptD ⟨0, []⟩]) = List.map ptD r := by simp
 have w3 : IntKind.i64.wrap (n1 - n0) = n1 - n0 := by rw [IntKind.wrap_i64]; omega
 simp only [List.length_cons, List.length_map, List.drop_zero, t2, w3]
 repeat' (with_reducible first|exact ⟨⟩|apply And.intro|(first|apply zA|apply zB|apply zC|apply zD|apply zE|apply zF|apply zG)<;>intro)
 all_goals first | exact k1 | exact k2 | exact k3 | exact k4 | exact k5 | exact k6 | exact k7 | exact k8 | rfl | omega | exact dno (by omega) | exact dyes (by omega) | exact dno h3 | (simp; omega) | skip
theorem rHeld_def (s : Rq) : rHeld s = s.r.length + sumD s.p := rfl
end Go.Proofs.YtalpfhpeaaocmaaGreat.C12
end
section
namespace Go.Proofs.YtalpfhpeaaocmaaGreat.C12
open Sx Go.RowKit
/-- The byte that a part has at a place. -/
def bA (x : Pt) (k : Int) : Option UInt8 := if x.a ≤ k then x.d[(k - x.a).toNat]? else none
def dP : List Pt → Int → Option UInt8
 | [], _ => none
 | x :: l, k => (bA x k).or (dP l k)
theorem bA_none {x : Pt} {k : Int} : bA x k = none ↔ k < x.a ∨ pEnd x ≤ k := by
 unfold bA pEnd
 split
 ·rw [List.getElem?_eq_none_iff]; omega
 ·simp; omega
theorem bA_some {x : Pt} {k : Int} (h1 : x.a ≤ k) (h2 : k < pEnd x) : ∃ c, bA x k = some c := by
 cases h : bA x k with
 | none => rw [bA_none] at h; omega
 | some c => exact ⟨c, rfl⟩
theorem bA_in {x : Pt} {k : Int} {c : UInt8} (h : bA x k = some c) : x.a ≤ k ∧ k < pEnd x := by
 have : ¬(k < x.a ∨ pEnd x ≤ k) := fun g => by rw [← bA_none] at g; rw [g] at h; cases h
 omega
theorem bA_glue {a : Int} {d e : List UInt8} (k : Int) : bA ⟨a, d ++ e⟩ k = (bA ⟨a, d⟩ k).or (bA ⟨a + d.length, e⟩ k) := by
 unfold bA
 by_cases h : a ≤ k
 ·simp only [h, if_true]
  by_cases h2 : k < a + d.length
  ·rw [List.getElem?_append_left (by omega)]
   have : (d[(k - a).toNat]?).isSome := by rw [List.getElem?_eq_getElem (by omega)]; rfl
   cases hq : d[(k - a).toNat]? with
   | none => rw [hq] at this; cases this
   | some c => rfl
  ·rw [List.getElem?_append_right (by omega), if_pos (by omega)]
   have : d[(k - a).toNat]? = none := List.getElem?_eq_none_iff.2 (by omega)
   rw [this, Option.none_or]
   congr 1
   omega
 ·have : ¬ a + (d.length : Int) ≤ k := by omega
  simp [h, this]
/-- A stretch of a part. -/
theorem bA_take (a : Int) (d : List UInt8) (n : Nat) (k : Int) : bA ⟨a, d.take n⟩ k = if k < a + n then bA ⟨a, d⟩ k else none := by
 unfold bA
 by_cases h : a ≤ k
 ·simp only [h, if_true]
  rw [List.getElem?_take]
  by_cases h2 : k < a + n
  ·rw [if_pos (by omega), if_pos h2]
  ·rw [if_neg (by omega), if_neg h2]
 ·simp [h]
theorem bA_drop (a : Int) (d : List UInt8) (n : Nat) (k : Int) : bA ⟨a + n, d.drop n⟩ k = if a + n ≤ k then bA ⟨a, d⟩ k else none := by
 unfold bA
 by_cases h : a + n ≤ k
 ·have h2 : a ≤ k := by omega
  simp only [h, h2, if_true]
  rw [List.getElem?_drop]
  congr 1
  omega
 ·simp [h]
theorem or_comm_of {x y : Option UInt8} (h : x = none ∨ y = none) : x.or y = y.or x := by
 rcases h with rfl | rfl <;> simp
theorem mg_bA {x y : Pt} (h1 : y.a ≤ pEnd x) (h2 : x.a ≤ pEnd y) (k : Int) : bA (mg y x) k = (bA y k).or (bA x k) := by
 have cut : ∀ k, pEnd y ≤ k → bA ⟨pEnd y, mgCut y x⟩ k = bA x k := fun k hk => by
  unfold mgCut
  by_cases hm : pEnd y - x.a ≤ x.d.length
  ·have e : pEnd y = x.a + ((min (x.d.length : Int) (pEnd y - x.a)).toNat : Nat) := by omega
   have := bA_drop x.a x.d (min (x.d.length : Int) (pEnd y - x.a)).toNat k
   rw [← e, if_pos hk] at this
   exact this
  ·have e : (min (x.d.length : Int) (pEnd y - x.a)).toNat = x.d.length := by omega
   rw [e, List.drop_length]
   have : bA x k = none := bA_none.2 (.inr (by unfold pEnd at *; omega))
   rw [this]
   unfold bA
   simp
 have cutn : ∀ k, k < pEnd y → bA ⟨pEnd y, mgCut y x⟩ k = none := fun k hk => bA_none.2 (.inl hk)
 unfold mg
 split
 ·next h =>
  rw [bA_glue]
  show (bA y k).or (bA ⟨pEnd y, _⟩ k) = _
  by_cases hk : pEnd y ≤ k
  ·rw [cut k hk]
  ·rw [cutn k (by omega)]
   by_cases hk2 : y.a ≤ k
   ·obtain ⟨c, hc⟩ := bA_some hk2 (by omega)
    rw [hc]; rfl
   ·have e : bA x k = none := bA_none.2 (.inl (by omega))
    rw [e]
 ·next h =>
  rw [List.append_assoc, bA_glue, bA_take]
  have hl : (x.d.take (y.a - x.a).toNat).length = (y.a - x.a).toNat := by rw [List.length_take]; unfold pEnd at h1; omega
  rw [hl, show x.a + ((y.a - x.a).toNat : Int) = y.a by omega, bA_glue]
  show (if k < y.a then bA x k else none).or ((bA y k).or (bA ⟨pEnd y, _⟩ k)) = _
  by_cases hk : k < y.a
  ·have e1 : bA y k = none := bA_none.2 (.inl hk)
   have e2 := cutn k (by unfold pEnd; omega)
   rw [if_pos hk, e1, e2]
   simp
  ·rw [if_neg hk, Option.none_or]
   by_cases hk2 : pEnd y ≤ k
   ·rw [cut k hk2]
   ·obtain ⟨c, hc⟩ := bA_some (x := y) (k := k) (by omega) (by omega)
    rw [hc]; rfl
theorem mg_ne {x y : Pt} (hx : x.d ≠ []) (hy : y.d ≠ []) : (mg y x).d ≠ [] := by
 unfold mg
 split
 ·simp [hy]
 ·simp [hy]
theorem srt_up {e e' : Int} (h : e' ≤ e) : ∀ {l : List Pt}, Srt e l → Srt e' l
 | [], _ => trivial
 | x :: l, g => ⟨by have := g.1; omega, g.2⟩
/-- Ahead of the first part there is nothing. -/
theorem srt_dP {e : Int} : ∀ {l : List Pt}, Srt e l → ∀ k, k ≤ e → dP l k = none
 | [], _, k, hk => rfl
 | x :: l, h, k, hk => by
  have h1 := h.1
  rw [dP, bA_none.2 (.inl (by omega)), Option.none_or]
  refine srt_dP h.2 k ?_
  unfold pEnd
  omega
theorem pEnd_gt {x : Pt} (h : x.d ≠ []) : x.a < pEnd x := by
 unfold pEnd
 have := List.length_pos_iff.2 h
 omega
theorem pEnd_ge (x : Pt) : x.a ≤ pEnd x := by unfold pEnd; omega
theorem jn2_ok : ∀ (m : List Pt) (e : Int) (x : Pt), Srt e m → (∀ y ∈ m, y.d ≠ [] ∧ x.a ≤ pEnd y) → e < x.a → x.d ≠ [] →
  Srt e ((jn2 x m).1 :: (jn2 x m).2) ∧ (∀ y ∈ (jn2 x m).1 :: (jn2 x m).2, y.d ≠ []) ∧ (∀ k, dP ((jn2 x m).1 :: (jn2 x m).2) k = (dP m k).or (bA x k)) ∧ (jn2 x m).2.length ≤ m.length ∧ (jn2 x m).1.d.length + sumD (jn2 x m).2 ≤ x.d.length + sumD m
 | [], e, x, hs, hy, he, hx => by
  refine ⟨⟨he, trivial⟩, fun y h => ?_, fun k => by simp [jn2, dP], by simp [jn2], Nat.le_refl _⟩
  simp [jn2] at h
  rw [h]; exact hx
 | y :: r, e, x, hs, hy, he, hx => by
  obtain ⟨hyd, hye⟩ := hy y (List.mem_cons_self ..)
  have hs1 := hs.1
  unfold jn2
  by_cases h : y.a > pEnd x
  ·rw [if_pos h]
   refine ⟨⟨he, h, hs.2⟩, fun z hz => ?_, fun k => ?_, Nat.le_refl _, Nat.le_refl _⟩
   ·rcases List.mem_cons.1 hz with rfl | hz
    ·exact hx
    ·exact (hy z hz).1
   ·rw [dP]
    refine or_comm_of ?_
    by_cases hk : k ≤ pEnd x
    ·exact .inr (srt_dP (e := pEnd x) (l := y :: r) (And.intro h hs.2) k hk)
    ·exact .inl (bA_none.2 (.inr (by show pEnd x ≤ k; omega)))
  ·rw [if_neg h]
   have hma := mg_a y x
   obtain ⟨i1, i2, i3, i4, i5⟩ := jn2_ok r e (mg y x) (srt_up (by have := pEnd_ge y; omega) hs.2) (fun z hz => ⟨(hy z (List.mem_cons_of_mem _ hz)).1, by have := (hy z (List.mem_cons_of_mem _ hz)).2; omega⟩) (by omega) (mg_ne hx hyd)
   have hml := mg_len y x
   refine ⟨i1, i2, fun k => ?_, by rw [List.length_cons]; omega, by rw [sumD_cons]; omega⟩
   rw [i3 k, mg_bA (by omega) hye, dP, ← Option.or_assoc]
   congr 1
   refine or_comm_of ?_
   by_cases hk : k ≤ pEnd y
   ·exact .inl (srt_dP hs.2 k hk)
   ·exact .inr (bA_none.2 (.inr (by omega)))
theorem jn_nil (x : Pt) : jn [] x = [x] := rfl
theorem jn_cons_y {y : Pt} (l : List Pt) {x : Pt} (h : pEnd y < x.a) : jn (y :: l) x = y :: jn l x := by
 unfold jn p1
 rw [List.takeWhile_cons_of_pos (by simpa using h)]
 rfl
theorem jn_cons_n {y : Pt} (l : List Pt) {x : Pt} (h : ¬pEnd y < x.a) : jn (y :: l) x = (jn2 x (y :: l)).1 :: (jn2 x (y :: l)).2 := by
 unfold jn p1
 rw [List.takeWhile_cons_of_neg (by simpa using h)]
 rfl
theorem jn_ok : ∀ (l : List Pt) (e : Int) (x : Pt), Srt e l → (∀ y ∈ l, y.d ≠ []) → e < x.a → x.d ≠ [] →
  Srt e (jn l x) ∧ (∀ y ∈ jn l x, y.d ≠ []) ∧ (∀ k, dP (jn l x) k = (dP l k).or (bA x k)) ∧ (jn l x).length ≤ l.length + 1 ∧ sumD (jn l x) ≤ sumD l + x.d.length
 | [], e, x, hs, hy, he, hx => by
  rw [jn_nil]
  refine ⟨⟨he, trivial⟩, fun y h => ?_, fun k => by simp [dP], by simp, by rw [sumD_cons]; simp [sumD]⟩
  simp at h
  rw [h]; exact hx
 | y :: l, e, x, hs, hy, he, hx => by
  by_cases h : pEnd y < x.a
  ·rw [jn_cons_y l h]
   obtain ⟨i1, i2, i3, i4, i5⟩ := jn_ok l (pEnd y) x hs.2 (fun z hz => hy z (List.mem_cons_of_mem _ hz)) h hx
   refine ⟨⟨hs.1, i1⟩, fun z hz => ?_, fun k => by rw [dP, i3 k, dP, Option.or_assoc], by simp only [List.length_cons]; omega, by rw [sumD_cons, sumD_cons]; omega⟩
   rcases List.mem_cons.1 hz with rfl | hz
   ·exact hy _ (List.mem_cons_self ..)
   ·exact i2 z hz
  ·rw [jn_cons_n l h]
   obtain ⟨i1, i2, i3, i4, i5⟩ := jn2_ok (y :: l) e x hs (fun z hz => ⟨hy z hz, srt_ge (a := x.a) hs (fun w hw => by simp at hw; subst hw; omega) z hz⟩) he hx
   exact ⟨i1, i2, i3, by simp only [List.length_cons] at *; omega, by rw [sumD_cons (jn2 _ _).1]; omega⟩
structure Ok (s : Rq) : Prop where
 b : 0 ≤ s.b ∧ s.b ≤ 1099511627776 ∧ s.r.length ≤ 4096 ∧ (s.r.length : Int) ≤ s.b
 srt : Srt s.b s.p
 p : ∀ y ∈ s.p, y.d ≠ [] ∧ pEnd y ≤ rLim s
theorem rBad_iff {lim : Int} : ∀ {l : List Pt} {e : Int}, rBad lim e l = false ↔ Srt e l ∧ ∀ y ∈ l, y.d ≠ [] ∧ pEnd y ≤ lim
 | [], e => by simp [rBad, Srt]
 | x :: l, e => by
  unfold rBad Srt
  rw [Bool.or_eq_false_iff, rBad_iff]
  have hp : pBad lim e x = false ↔ e < x.a ∧ x.d ≠ [] ∧ pEnd x ≤ lim := by
   unfold pBad pEnd
   simp only [Bool.or_eq_false_iff, decide_eq_false_iff_not]
   constructor
   ·rintro ⟨h1, h2, h3, h4⟩; exact ⟨by omega, h2, by omega⟩
   ·rintro ⟨h1, h2, h3⟩; exact ⟨by omega, h2, by omega, by omega⟩
  rw [hp]
  constructor
  ·rintro ⟨⟨h1, h2, h3⟩, h4, h5⟩
   refine ⟨⟨h1, h4⟩, fun y hy => ?_⟩
   rcases List.mem_cons.1 hy with rfl | hy
   ·exact ⟨h2, h3⟩
   ·exact h5 y hy
  ·rintro ⟨⟨h1, h4⟩, h5⟩
   have := h5 x (List.mem_cons_self ..)
   exact ⟨⟨h1, this.1, this.2⟩, h4, fun y hy => h5 y (List.mem_cons_of_mem _ hy)⟩
theorem ok_iff {s : Rq} : rChk s = 0 ↔ Ok s := by
 constructor
 ·intro h
  have hz := chk_zero h
  obtain ⟨h1, h2⟩ := rBad_iff.1 hz.2
  exact ⟨hz.1, h1, h2⟩
 ·intro h
  unfold rChk
  have h1 : rOut s = false := by
   unfold rOut
   have := h.b
   exact decide_eq_false (by omega)
  rw [h1, rBad_iff.2 ⟨h.srt, h.p⟩]
  rfl
/-- Where what is ready begins. -/
def rS (s : Rq) : Int := s.b - s.r.length
def den (s : Rq) (k : Int) : Option UInt8 := (bA ⟨rS s, s.r⟩ k).or (dP s.p k)
theorem rLim_of {s t : Rq} (h : rS s = rS t) : rLim s = rLim t := by unfold rLim; unfold rS at h; rw [h]
theorem dP_some {l : List Pt} {y : Pt} {k : Int} (hy : y ∈ l) (h1 : y.a ≤ k) (h2 : k < pEnd y) : ∃ c, dP l k = some c := by
 induction l with
 | nil => cases hy
 | cons x r ih =>
  rw [dP]
  cases hx : bA x k with
  | some c => exact ⟨c, rfl⟩
  | none =>
   rcases List.mem_cons.1 hy with rfl | hy
   ·obtain ⟨c, hc⟩ := bA_some h1 h2
    rw [hc] at hx; cases hx
   ·obtain ⟨c, hc⟩ := ih hy
    exact ⟨c, by rw [hc]; rfl⟩
theorem dP_in {l : List Pt} {k : Int} {c : UInt8} (h : dP l k = some c) : ∃ y ∈ l, y.a ≤ k ∧ k < pEnd y := by
 induction l with
 | nil => cases h
 | cons x r ih =>
  rw [dP] at h
  cases hx : bA x k with
  | some c => exact ⟨x, List.mem_cons_self .., bA_in hx⟩
  | none =>
   rw [hx, Option.none_or] at h
   obtain ⟨y, hy, hk⟩ := ih h
   exact ⟨y, List.mem_cons_of_mem _ hy, hk⟩
theorem den_r {s : Rq} {k : Int} (h1 : rS s ≤ k) (h2 : k < s.b) : ∃ c, den s k = some c := by
 unfold den
 obtain ⟨c, hc⟩ := bA_some (x := ⟨rS s, s.r⟩) (k := k) h1 (by unfold pEnd rS; show k < s.b - (s.r.length : Int) + (s.r.length : Int); omega)
 exact ⟨c, by rw [hc]; rfl⟩
theorem rS_end (s : Rq) : pEnd ⟨rS s, s.r⟩ = s.b := by unfold pEnd rS; show s.b - (s.r.length : Int) + (s.r.length : Int) = s.b; omega
theorem den_ge {s : Rq} {k : Int} (h : s.b ≤ k) : den s k = dP s.p k := by
 unfold den
 rw [bA_none.2 (.inr (by rw [rS_end]; exact h)), Option.none_or]
end Go.Proofs.YtalpfhpeaaocmaaGreat.C12
end
section
namespace Go.Proofs.YtalpfhpeaaocmaaGreat.C12
open Sx Go.RowKit
theorem rCut_a {s : Rq} {k : Int} {d : List UInt8} : (rCut s k d).a = max k s.b := by
 unfold rCut
 split
 ·show s.b = _; omega
 ·show k = _; omega
theorem rCut_len {s : Rq} {k : Int} {d : List UInt8} : (rCut s k d).d.length ≤ d.length := by
 unfold rCut
 split
 ·show (List.drop _ (List.take _ _)).length ≤ _
  rw [List.length_drop, List.length_take]; omega
 ·show (List.take _ _).length ≤ _
  rw [List.length_take]; omega
theorem cut_take (s : Rq) (k : Int) (d : List UInt8) (h : k < rLim s) (j : Int) : bA ⟨k, d.take (min (d.length : Int) (rLim s - k)).toNat⟩ j = if j < rLim s then bA ⟨k, d⟩ j else none := by
 rw [bA_take]
 by_cases h1 : j < rLim s
 ·rw [if_pos h1]
  by_cases h2 : j < k + ((min (d.length : Int) (rLim s - k)).toNat : Int)
  ·rw [if_pos h2]
  ·rw [if_neg h2]
   exact (bA_none.2 (by unfold pEnd; show j < k ∨ k + (d.length : Int) ≤ j; omega)).symm
 ·rw [if_neg h1, if_neg (by omega)]
theorem rCut_bA {s : Rq} {k : Int} {d : List UInt8} (h : k < rLim s) (j : Int) : bA (rCut s k d) j = if s.b ≤ j ∧ j < rLim s then bA ⟨k, d⟩ j else none := by
 unfold rCut
 by_cases hb : k < s.b
 ·rw [if_pos hb]
  have e := cut_take s k d h
  generalize hd1 : d.take (min (d.length : Int) (rLim s - k)).toNat = d1 at e ⊢
  by_cases hm : s.b - k ≤ d1.length
  ·have ea : s.b = k + ((min (d1.length : Int) (s.b - k)).toNat : Int) := by omega
   have h2 := bA_drop k d1 (min (d1.length : Int) (s.b - k)).toNat j
   rw [← ea] at h2
   rw [h2, e j]
   by_cases g : s.b ≤ j <;> by_cases g2 : j < rLim s <;> simp [g, g2]
  ·have e0 : (min (d1.length : Int) (s.b - k)).toNat = d1.length := by omega
   rw [e0, List.drop_length]
   have hz : bA ⟨s.b, []⟩ j = none := bA_none.2 (by unfold pEnd; simp; omega)
   rw [hz]
   split
   ·next g =>
    have h3 := e j
    rw [if_pos g.2] at h3
    rw [← h3]
    exact (bA_none.2 (by unfold pEnd; simp only; omega)).symm
   ·rfl
 ·rw [if_neg hb]
  show bA ⟨k, _⟩ j = _
  rw [cut_take s k d h]
  by_cases g : s.b ≤ j
  ·simp [g]
  ·have hz : bA ⟨k, d⟩ j = none := bA_none.2 (.inl (by show j < k; omega))
   simp [g, hz]
theorem rCut_end {s : Rq} {k : Int} {d : List UInt8} (h : k < rLim s) (hx : (rCut s k d).d ≠ []) : pEnd (rCut s k d) ≤ rLim s := by
 have hg := pEnd_gt hx
 obtain ⟨c, hc⟩ := bA_some (x := rCut s k d) (k := pEnd (rCut s k d) - 1) (by omega) (by omega)
 rw [rCut_bA h] at hc
 split at hc
 ·next g => omega
 ·cases hc
theorem ends_of {l m : List Pt} {x : Pt} {lim : Int} (hm : ∀ y ∈ m, y.d ≠ []) (hd : ∀ k, dP m k = (dP l k).or (bA x k)) (hl : ∀ y ∈ l, pEnd y ≤ lim) (hx : pEnd x ≤ lim) : ∀ y ∈ m, y.d ≠ [] ∧ pEnd y ≤ lim := fun y hy => by
 have hg := pEnd_gt (hm y hy)
 refine ⟨hm y hy, ?_⟩
 obtain ⟨c, hc⟩ := dP_some (k := pEnd y - 1) hy (by omega) (by omega)
 rw [hd] at hc
 cases hq : dP l (pEnd y - 1) with
 | some c' =>
  obtain ⟨z, hz, h1, h2⟩ := dP_in hq
  have := hl z hz
  omega
 | none =>
  rw [hq, Option.none_or] at hc
  have := bA_in hc
  omega
theorem rTop_y {s : Rq} {f : Pt} {r : List Pt} (h : f.a = s.b) : rTop s (f :: r) = ⟨pEnd f, s.r ++ f.d, r⟩ := by
 show (if f.a = s.b then _ else _) = _
 rw [if_pos h]
theorem rTop_n {s : Rq} {f : Pt} {r : List Pt} (h : ¬f.a = s.b) : rTop s (f :: r) = ⟨s.b, s.r, f :: r⟩ := by
 show (if f.a = s.b then _ else _) = _
 rw [if_neg h]
theorem rTop_ok {s : Rq} (h : Ok s) {l : List Pt} (hs : Srt (s.b - 1) l) (hl : ∀ y ∈ l, y.d ≠ [] ∧ pEnd y ≤ rLim s) (hne : l ≠ []) :
  Ok (rTop s l) ∧ rS (rTop s l) = rS s ∧ ∀ k, den (rTop s l) k = (bA ⟨rS s, s.r⟩ k).or (dP l k) := by
 cases l with
 | nil => exact absurd rfl hne
 | cons f r =>
  have hb := h.b
  have hf := hl f (List.mem_cons_self ..)
  have hs1 := hs.1
  by_cases hfa : f.a = s.b
  ·rw [rTop_y hfa]
   have e0 : rS ⟨pEnd f, s.r ++ f.d, r⟩ = rS s := by
    unfold rS pEnd; simp only [List.length_append]; omega
   have e1 := rLim_of e0
   have hlim : rLim s = min (rS s + 4096) 1099511627776 := rfl
   have hle : pEnd f ≤ rLim s := hf.2
   have hpf := pEnd_ge f
   refine ⟨⟨?_, ?_, fun y hy => ?_⟩, e0, fun k => ?_⟩
   ·simp only [List.length_append]
    unfold rS at hlim
    unfold pEnd at hle hpf ⊢
    omega
   ·exact hs.2
   ·rw [e1]; exact hl y (List.mem_cons_of_mem _ hy)
   ·unfold den
    rw [e0, bA_glue]
    have : rS s + (s.r.length : Int) = f.a := by unfold rS; omega
    rw [this, Option.or_assoc]
    rfl
  ·rw [rTop_n hfa]
   exact ⟨⟨hb, ⟨by show s.b < f.a; omega, hs.2⟩, hl⟩, rfl, fun k => rfl⟩
theorem put_cut {s : Rq} (h : Ok s) {k : Int} {d : List UInt8} (h1 : k < rLim s) (hx : (rCut s k d).d ≠ []) :
  Srt (s.b - 1) (jn s.p (rCut s k d)) ∧ (∀ y ∈ jn s.p (rCut s k d), y.d ≠ [] ∧ pEnd y ≤ rLim s) ∧ (∀ j, dP (jn s.p (rCut s k d)) j = (dP s.p j).or (bA (rCut s k d) j)) ∧ (jn s.p (rCut s k d)).length ≤ s.p.length + 1 ∧ sumD (jn s.p (rCut s k d)) ≤ sumD s.p + d.length := by
 obtain ⟨i1, i2, i3, i4, i5⟩ := jn_ok s.p (s.b - 1) (rCut s k d) (srt_up (by omega) h.srt) (fun y hy => (h.p y hy).1) (by rw [rCut_a]; omega) hx
 have := rCut_len (s := s) (k := k) (d := d)
 exact ⟨i1, ends_of i2 i3 (fun y hy => (h.p y hy).2) (rCut_end h1 hx), i3, i4, by omega⟩
theorem jn_ne (l : List Pt) (x : Pt) : jn l x ≠ [] := by unfold jn; simp
/-- What Put leaves. -/
theorem rPut_ok {s : Rq} (h : Ok s) (k : Int) (h0 : 0 ≤ k) (h1 : k ≤ 1099511627776) (d : List UInt8) :
  Ok (rPut s k d).1 ∧ rS (rPut s k d).1 = rS s ∧ (∀ j, den (rPut s k d).1 j = (den s j).or (if rS s ≤ j ∧ j < rLim s then bA ⟨k, d⟩ j else none)) ∧ (rPut s k d).2 = (rHeld (rPut s k d).1 : Int) - rHeld s := by
 have hz : rChk s = 0 := ok_iff.2 h
 unfold rPut
 rw [if_neg (by omega)]
 have low : ∀ j c, rS s ≤ j → j < s.b → (den s j).or c = den s j := fun j c g1 g2 => by
  obtain ⟨x, hx⟩ := den_r g1 g2
  rw [hx]; rfl
 by_cases hk : k ≥ rLim s
 ·rw [if_pos hk]
  refine ⟨h, rfl, fun j => ?_, by simp⟩
  have : (if rS s ≤ j ∧ j < rLim s then bA ⟨k, d⟩ j else none) = none := by
   split
   ·exact bA_none.2 (.inl (by show j < k; omega))
   ·rfl
  rw [this, Option.or_none]
 ·rw [if_neg hk]
  have hk := Int.not_le.1 hk
  have key : ∀ j, (den s j).or (bA (rCut s k d) j) = (den s j).or (if rS s ≤ j ∧ j < rLim s then bA ⟨k, d⟩ j else none) := fun j => by
   rw [rCut_bA hk]
   by_cases g1 : s.b ≤ j
   ·have : rS s ≤ j := by unfold rS; omega
    simp [g1, this]
   ·by_cases g2 : rS s ≤ j
    ·rw [low j _ g2 (by omega), low j _ g2 (by omega)]
    ·simp [g1, g2]
  by_cases hx : (rCut s k d).d = []
  ·rw [if_pos hx]
   refine ⟨h, rfl, fun j => ?_, by simp⟩
   rw [← key j]
   have : bA (rCut s k d) j = none := bA_none.2 (by unfold pEnd; rw [hx]; simp; omega)
   rw [this, Option.or_none]
  ·rw [if_neg hx]
   obtain ⟨i1, i2, i3, i4, i5⟩ := put_cut h hk hx
   obtain ⟨j1, j2, j3⟩ := rTop_ok h i1 i2 (jn_ne _ _)
   refine ⟨j1, j2, fun j => ?_, rfl⟩
   rw [j3, i3, ← Option.or_assoc]
   exact key j
theorem put11 (s : Rq) (hb : Rb s) (hl : s.p.length < 900000) (k : Int) (d : List UInt8) (hd : rHeld s + d.length < 900000) :
  FnOK Tryz.prog 62 [.d (rqD s), .d (.int .i64 k), .d (.str d)] [] (.tup [.d (rqD (rPut s k d).1), .d (.int .i64 (rPut s k d).2)]) [] := by
 have hd0 : d.length < 1000000 := by omega
 have hl0 : s.p.length < 1000000 := by omega
 unfold rPut
 by_cases hno : k < 0 ∨ k > 1099511627776 ∨ rChk s ≠ 0
 ·rw [if_pos hno]; exact put11a s hb hl0 k d hd0 _ rfl hno
 ·rw [if_neg hno]
  have he : rChk s = 0 := by omega
  have h := ok_iff.1 he
  by_cases hk : k ≥ rLim s
  ·rw [if_pos hk]; exact put11b s hb hl0 k d hd0 he (by omega) (by omega) _ rfl hk
  ·rw [if_neg hk]
   by_cases hx : (rCut s k d).d = []
   ·rw [if_pos hx]
    by_cases hc : k < s.b
    ·refine put11c s hb hl0 k d hd0 he (by omega) (by omega) _ rfl hk hc _ _ rfl rfl ?_
     unfold rCut at hx
     rw [if_pos hc] at hx
     exact hx
    ·refine put11d s hb hl0 k d hd0 he (by omega) (by omega) _ rfl hk hc _ rfl ?_
     unfold rCut at hx
     rw [if_neg hc] at hx
     exact hx
   ·rw [if_neg hx]
    have hhd := rHeld_def s
    have hb' := h.b
    obtain ⟨i1, i2, i3, i4, i5⟩ := put_cut h (Int.not_le.1 hk) hx
    have hca := rCut_a (s := s) (k := k) (d := d)
    have hcl := rCut_len (s := s) (k := k) (d := d)
    have hce := rCut_end (Int.not_le.1 hk) hx
    have hcg := pEnd_gt hx
    have hll := rLim_le s
    have hsm : ∀ y ∈ s.p, Sm y := fun y hy => by
     have h1 := h.p y hy
     have h2 := pEnd_gt h1.1
     have h3 : s.b < y.a := by
      have : ∀ {l : List Pt} {e : Int}, Srt e l → ∀ y ∈ l, e < y.a := by
       intro l
       induction l with
       | nil => intro e _ y hy; cases hy
       | cons x r ih =>
        intro e hs y hy
        rcases List.mem_cons.1 hy with rfl | hy
        ·exact hs.1
        ·have := ih hs.2 y hy
         have := pEnd_ge x
         have := hs.1
         omega
      exact this h.srt y hy
     have h4 : y.d.length ≤ sumD s.p := by
      have : ∀ {l : List Pt}, y ∈ l → y.d.length ≤ sumD l := by
       intro l
       induction l with
       | nil => intro hy; cases hy
       | cons x r ih =>
        intro hy
        rw [sumD_cons]
        rcases List.mem_cons.1 hy with rfl | hy
        ·omega
        ·have := ih hy; omega
      exact this hy
     exact ⟨by omega, by omega⟩
    have k5 := join32' s.p hl0 s.b h.srt (rCut s k d) (by omega) (by omega) hsm
    have hne := jn_ne s.p (rCut s k d)
    generalize hj : jn s.p (rCut s k d) = l at *
    cases l with
    | nil => exact absurd rfl hne
    | cons f r =>
     have hf := i2 f (List.mem_cons_self ..)
     have hfg := pEnd_gt hf.1
     have hfa := i1.1
     rw [sumD_cons] at i5
     simp only [List.length_cons] at i4
     have hfe : IntKind.i64.wrap (pEnd f) = pEnd f := by rw [IntKind.wrap_i64]; omega
     have k6 := held28 s (by omega) (by omega)
     by_cases hfb : f.a = s.b
     ·rw [rTop_y hfb]
      have hh : rHeld ⟨pEnd f, s.r ++ f.d, r⟩ = s.r.length + f.d.length + sumD r := by rw [rHeld_def]; simp only [List.length_append]
      have k7 := held28 ⟨pEnd f, s.r ++ f.d, r⟩ (by omega) (by show r.length < _; omega)
      by_cases hc : k < s.b
      ·refine put11e s hb hl0 k d hd0 he (by omega) (by omega) _ rfl hk hc _ rfl _ rfl ?_ (rCut s k d) f r hj k5 _ _ k6 (by omega) (by omega) (by omega) hfe (by omega) ?_ hfb k7
       ·unfold rCut at hx; rw [if_pos hc] at hx; exact hx
       ·unfold rCut; rw [if_pos hc]
      ·refine put11g s hb hl0 k d hd0 he (by omega) (by omega) _ rfl hk hc _ rfl ?_ (rCut s k d) f r hj k5 _ _ k6 (by omega) (by omega) (by omega) hfe (by omega) ?_ hfb k7
       ·unfold rCut at hx; rw [if_neg hc] at hx; exact hx
       ·unfold rCut; rw [if_neg hc]
     ·rw [rTop_n hfb]
      have hh : rHeld ⟨s.b, s.r, f :: r⟩ = s.r.length + (f.d.length + sumD r) := by rw [rHeld_def, sumD_cons]
      have k7 := held28 ⟨s.b, s.r, f :: r⟩ (by omega) (by show (f :: r).length < _; simp only [List.length_cons]; omega)
      by_cases hc : k < s.b
      ·refine put11f s hb hl0 k d hd0 he (by omega) (by omega) _ rfl hk hc _ rfl _ rfl ?_ (rCut s k d) f r hj k5 _ _ k6 (by omega) (by omega) (by omega) hfe (by omega) ?_ hfb _ rfl k7
       ·unfold rCut at hx; rw [if_pos hc] at hx; exact hx
       ·unfold rCut; rw [if_pos hc]
      ·refine put11h s hb hl0 k d hd0 he (by omega) (by omega) _ rfl hk hc _ rfl ?_ (rCut s k d) f r hj k5 _ _ k6 (by omega) (by omega) (by omega) hfe (by omega) ?_ hfb _ rfl k7
       ·unfold rCut at hx; rw [if_neg hc] at hx; exact hx
       ·unfold rCut; rw [if_neg hc]
end Go.Proofs.YtalpfhpeaaocmaaGreat.C12
end
section
namespace Go.Proofs.YtalpfhpeaaocmaaGreat.C13
open Sx Go.RowKit
/-- An end: stage, path, epoch, its number, the other one's. -/
structure Nd where
 g : Int
 p : Int
 e : Int
 m : Int
 h : Int
def ndD (s : Nd) : D := .agg [.int .u8 s.g, .int .i64 s.p, .int .i64 s.e, .int .u32 s.m, .int .u32 s.h]
/-- A segment; its blocks as they are. -/
structure Sg where
 f : Int
 p : Int
 e : Int
 q : Int
 a : Int
 w : Int
 k : List D
 t : List UInt8
def sgD (x : Sg) : D := .agg [.int .u8 x.f, .int .i64 x.p, .int .i64 x.e, .int .u32 x.q, .int .u32 x.a, .int .i64 x.w, .sl x.k, .str x.t]
def nChk (s : Nd) : Int := if s.p < 0 ∨ 4 ≤ s.p ∨ s.e < 0 ∨ 65535 < s.e then 8 else if 4 < s.g then 12 else if s.g < 2 ∧ s.h ≠ 0 then 4 else 0
def nAt (s : Nd) (g : Int) : Nd := if nChk s = 0 then ⟨g, s.p, s.e, s.m, s.h⟩ else s
def nAsk (s : Nd) : Nd := if s.g = 0 then nAt s 1 else s
def nMet (s : Nd) (g q : Int) : Nd := ⟨g, s.p, s.e, s.m, q⟩
def nNew (p e m : Int) : Nd := ⟨0, p, e, m, 0⟩
def hasB (f k : Int) : Bool := bitsI .and .u8 f k == k
def aAdd (a n : Int) : Int := (a + n) % 4294967296
def aIn (a b n : Int) : Bool := decide ((a - b) % 4294967296 < n)
def aBehind (a n : Int) : Bool := aIn a (aAdd n 1) 2147483648
def gChk (x : Sg) : Int :=
 if 31 < x.f then 12
 else if x.p < 0 ∨ 3 < x.p ∨ x.e < 0 ∨ 65535 < x.e ∨ x.w < 0 ∨ 65535 < x.w then 8
 else if 3 < x.k.length ∨ 48 < x.t.length then 5
 else if ((0 < x.k.length ∨ x.a ≠ 0) ∧ hasB x.f 2 = false) ∨ ((hasB x.f 1 = true ∨ hasB x.f 8 = true) ∧ x.t ≠ []) then 4
 else 0
def nFit (s : Nd) (x : Sg) : Bool := decide (gChk x = 0 ∧ x.p = s.p ∧ x.e = s.e)
theorem tmod_round (x : Int) : x.tmod 4294967296 = if 0 ≤ x then x % 4294967296 else -((-x) % 4294967296) := by
 split
 ·next h => exact Int.tmod_eq_emod_of_nonneg h
 ·next h =>
  have := Int.neg_tmod (a := -x) (b := 4294967296)
  rw [Int.neg_neg] at this
  rw [this, Int.tmod_eq_emod_of_nonneg (by omega)]
end Go.Proofs.YtalpfhpeaaocmaaGreat.C13
end
section
namespace Go.Proofs.YtalpfhpeaaocmaaGreat.C13
open Sx Go.RowKit
def gNd (r : Nd → AV) : List D → Option (AV × List Ob) := fun | [.agg [.int _ g, .int _ p, .int _ e, .int _ m, .int _ h]] => some (r ⟨g, p, e, m, h⟩, []) | _ => none
def gNd2 (r : Nd → Int → AV) : List D → Option (AV × List Ob) := fun | [.agg [.int _ g, .int _ p, .int _ e, .int _ m, .int _ h], .int _ n] => some (r ⟨g, p, e, m, h⟩ n, []) | _ => none
def g2 (r : Int → Int → AV) : List D → Option (AV × List Ob) := fun | [.int _ a, .int _ b] => some (r a b, []) | _ => none
def g3 (r : Int → Int → Int → AV) : List D → Option (AV × List Ob) := fun | [.int _ a, .int _ b, .int _ n] => some (r a b n, []) | _ => none
def G1 : List (Nat × (List D → Option (AV × List Ob))) := [
 (58, g2 fun a n => .d (.int .u32 (aAdd a n))),
 (99999, g2 fun a n => .d (.int .u32 (aAdd a n))),
 (99999, fun | [.int _ n] => some (.d (.int .u32 (n % 4294967296)), []) | _ => none),
 (99999, fun | [.int _ n] => some (.d (.int .u32 (aAdd n 1)), []) | _ => none),
 (87, g3 fun a b n => .d (.bool (aIn a b n))),
 (99999, g3 fun a b n => .d (.bool (aIn a b n))),
 (60, g2 fun a n => .d (.bool (aBehind a n))),
 (99999, g2 fun a n => .d (.bool (aBehind a n))),
 (86, g2 fun a n => .d (.bool (decide (0 ≤ a ∧ a ≤ n)))),
 (39, gNd fun s => .d (.int .i64 (nChk s))),
 (99999, gNd fun s => .d (.int .i64 (nChk s)))]
theorem nAt_yes {s : Nd} {g : Int} (h : nChk s = 0) : nAt s g = ⟨g, s.p, s.e, s.m, s.h⟩ := if_pos h
theorem nAt_no {s : Nd} {g : Int} (h : nChk s ≠ 0) : nAt s g = s := if_neg h
theorem add30 (a n : Int) : FnOK Tryz.prog 58 ([.d (.int .u32 a), .d (.int .i64 n)]) ([]) (.d (.int .u32 (aAdd a n))) ([]) := by
 refine fnOK_wp (p := (vW (IntKind.u32.wrap (a + IntKind.u32.wrap n)) = vW (aAdd a n)) ∧ True) (h := {}) (subs := []) (ws := []) (ρ := []) (by kernel_rfl) ?_
 repeat' (with_reducible first|exact ⟨⟩|apply And.intro|(first|apply zA|apply zB|apply zC|apply zD|apply zE|apply zF|apply zG)<;>intro)
 all_goals (try simp only [AV.d.injEq, D.int.injEq, D.bool.injEq, true_and, and_true, decide_eq_true_eq, decide_eq_false_iff_not, decide_eq_decide])
 all_goals (try simp only [IntKind.wrap_u32, IntKind.wrap_i64, aAdd, aIn, Int.tmod_eq_emod_of_nonneg (a := 1) (b := 4294967296) (by decide)] at *)
 all_goals first | rfl | omega
theorem in33 (a n : Int) : FnOK Tryz.prog 86 ([.d (.int .i64 a), .d (.int .i64 n)]) ([]) (.d (.bool (decide (0 ≤ a ∧ a ≤ n)))) ([]) := by
 refine fnOK_wp (p := condP (decide ((0 : Int) ≤ a)) ((D.bool (decide ((0 : Int) ≤ a)) = D.bool true) ∧ (vB (decide (a ≤ n)) = vB (decide ((0 : Int) ≤ a ∧ a ≤ n))) ∧ True) ((D.bool (decide ((0 : Int) ≤ a)) = D.bool false) ∧ (vB false = vB (decide ((0 : Int) ≤ a ∧ a ≤ n))) ∧ True)) (h := {}) (subs := []) (ws := []) (ρ := []) (by kernel_rfl) ?_
 repeat' (with_reducible first|exact ⟨⟩|apply And.intro|(first|apply zA|apply zB|apply zC|apply zD|apply zE|apply zF|apply zG)<;>intro)
 all_goals (try simp only [AV.d.injEq, D.int.injEq, D.bool.injEq, true_and, and_true, decide_eq_true_eq, decide_eq_false_iff_not, decide_eq_decide])
 all_goals (try simp only [IntKind.wrap_u32, IntKind.wrap_i64, aAdd, aIn, Int.tmod_eq_emod_of_nonneg (a := 1) (b := 4294967296) (by decide)] at *)
 all_goals first | rfl | omega | (rw [decide_eq_true_eq]; omega) | (rw [decide_eq_false_iff_not]; omega) | (refine decide_eq_decide.2 ⟨?_, ?_⟩ <;> intros <;> omega) | (refine (decide_eq_false ?_).symm; omega) | skip
theorem in39 (a b n : Int) (hn : 0 < n) : FnOK Tryz.prog 87 ([.d (.int .u32 a), .d (.int .u32 b), .d (.int .i64 n)]) ([]) (.d (.bool (aIn a b n))) ([]) := by
 refine fnOK_wp (p := (D.bool (decide (n > (0 : Int))) = D.bool true) ∧ (vB (decide (IntKind.i64.wrap (IntKind.u32.wrap (a - b)) < n)) = vB (aIn a b n)) ∧ True) (h := {chain := true}) (subs := []) (ws := []) (ρ := []) (by kernel_rfl) ?_
 repeat' (with_reducible first|exact ⟨⟩|apply And.intro|(first|apply zA|apply zB|apply zC|apply zD|apply zE|apply zF|apply zG)<;>intro)
 all_goals (try simp only [AV.d.injEq, D.int.injEq, D.bool.injEq, true_and, and_true, decide_eq_true_eq, decide_eq_false_iff_not, decide_eq_decide])
 all_goals (try simp only [IntKind.wrap_u32, IntKind.wrap_i64, aAdd, aIn, Int.tmod_eq_emod_of_nonneg (a := 1) (b := 4294967296) (by decide)] at *)
 all_goals first | rfl | omega | (refine decide_eq_decide.2 ⟨?_, ?_⟩ <;> intros <;> omega) | (simp; omega)
theorem chk14 (s : Nd) : FnOK Tryz.prog 39 ([.d (ndD s)]) ([]) (.d (.int .i64 (nChk s))) ([]) := by
 refine fnOK_wp (p := condP (decide (s.p < (0 : Int))) (condP (decide (s.p < (0 : Int))) ((vI 8 = vI (nChk s)) ∧ True) (condP (decide (s.g > (4 : Int))) ((vI 12 = vI (nChk s)) ∧ True) (condP (decide (s.g < (2 : Int))) ((D.bool (decide (s.g < (2 : Int))) = D.bool true) ∧ (condP (s.h != (0 : Int)) ((vI 4 = vI (nChk s)) ∧ True) ((vI 0 = vI (nChk s)) ∧ True))) ((D.bool (decide (s.g < (2 : Int))) = D.bool false) ∧ (vI 0 = vI (nChk s)) ∧ True)))) (condP (decide (s.p ≥ (4 : Int))) (condP (decide (s.p ≥ (4 : Int))) ((vI 8 = vI (nChk s)) ∧ True) (condP (decide (s.g > (4 : Int))) ((vI 12 = vI (nChk s)) ∧ True) (condP (decide (s.g < (2 : Int))) ((D.bool (decide (s.g < (2 : Int))) = D.bool true) ∧ (condP (s.h != (0 : Int)) ((vI 4 = vI (nChk s)) ∧ True) ((vI 0 = vI (nChk s)) ∧ True))) ((D.bool (decide (s.g < (2 : Int))) = D.bool false) ∧ (vI 0 = vI (nChk s)) ∧ True)))) (condP (decide (s.e < (0 : Int))) (condP (decide (s.e < (0 : Int))) ((vI 8 = vI (nChk s)) ∧ True) (condP (decide (s.g > (4 : Int))) ((vI 12 = vI (nChk s)) ∧ True) (condP (decide (s.g < (2 : Int))) ((D.bool (decide (s.g < (2 : Int))) = D.bool true) ∧ (condP (s.h != (0 : Int)) ((vI 4 = vI (nChk s)) ∧ True) ((vI 0 = vI (nChk s)) ∧ True))) ((D.bool (decide (s.g < (2 : Int))) = D.bool false) ∧ (vI 0 = vI (nChk s)) ∧ True)))) (condP (decide (s.e > (65535 : Int))) ((vI 8 = vI (nChk s)) ∧ True) (condP (decide (s.g > (4 : Int))) ((vI 12 = vI (nChk s)) ∧ True) (condP (decide (s.g < (2 : Int))) ((D.bool (decide (s.g < (2 : Int))) = D.bool true) ∧ (condP (s.h != (0 : Int)) ((vI 4 = vI (nChk s)) ∧ True) ((vI 0 = vI (nChk s)) ∧ True))) ((D.bool (decide (s.g < (2 : Int))) = D.bool false) ∧ (vI 0 = vI (nChk s)) ∧ True))))))) (h := {}) (subs := []) (ws := []) (ρ := []) (by kernel_rfl) ?_
 repeat' (with_reducible first|exact ⟨⟩|apply And.intro|(first|apply zA|apply zB|apply zC|apply zD|apply zE|apply zF|apply zG)<;>intro)
 all_goals (try simp only [AV.d.injEq, D.int.injEq, D.bool.injEq, true_and, and_true])
 all_goals first | rfl | omega | (unfold nChk; (repeat' split) <;> first | rfl | omega) | (refine congrArg D.bool ?_; simp; done) | (rw [decide_eq_true_eq]; omega) | (rw [decide_eq_false_iff_not]; omega) | (exfalso; simp_all; done) | skip
theorem new12 (p e m : Int) : FnOK Tryz.prog 38 ([.d (.int .i64 p), .d (.int .i64 e), .d (.int .u32 m)]) ([]) (.d (ndD (nNew p e m))) ([]) := by
 refine fnOK_wp (p := (AV.d (.agg [D.int .u8 0, D.int .i64 p, D.int .i64 e, D.int .u32 m, D.int .u32 0]) = AV.d (.agg [D.int .u8 (nNew p e m).g, D.int .i64 (nNew p e m).p, D.int .i64 (nNew p e m).e, D.int .u32 (nNew p e m).m, D.int .u32 (nNew p e m).h])) ∧ True) (h := {}) (subs := []) (ws := []) (ρ := []) (by kernel_rfl) ?_
 repeat' (with_reducible first|exact ⟨⟩|apply And.intro|(first|apply zA|apply zB|apply zC|apply zD|apply zE|apply zF|apply zG)<;>intro)
 all_goals rfl
theorem met31 (s : Nd) (g : Int) (x : Sg) : FnOK Tryz.prog 59 ([.d (ndD s), .d (.int .u8 g), .d (sgD x)]) ([]) (.d (ndD (nMet s g x.q))) ([]) := by
 refine fnOK_wp (p := (AV.d (.agg [D.int .u8 g, D.int .i64 s.p, D.int .i64 s.e, D.int .u32 s.m, D.int .u32 x.q]) = AV.d (.agg [D.int .u8 (nMet s g x.q).g, D.int .i64 (nMet s g x.q).p, D.int .i64 (nMet s g x.q).e, D.int .u32 (nMet s g x.q).m, D.int .u32 (nMet s g x.q).h])) ∧ True) (h := {}) (subs := []) (ws := []) (ρ := []) (by kernel_rfl) ?_
 repeat' (with_reducible first|exact ⟨⟩|apply And.intro|(first|apply zA|apply zB|apply zC|apply zD|apply zE|apply zF|apply zG)<;>intro)
 all_goals rfl
theorem has28 (x : Sg) (k : Int) : FnOK Tryz.prog 57 ([.d (sgD x), .d (.int .u8 k)]) ([]) (.d (.bool (hasB x.f k))) ([]) := by
 refine fnOK_wp (p := (vB (bitsI BinOp.and IntKind.u8 x.f k == k) = vB (hasB x.f k)) ∧ True) (h := {}) (subs := []) (ws := []) (ρ := []) (by kernel_rfl) ?_
 exact ⟨rfl, trivial⟩
theorem at29 (s : Nd) (g : Int) : FnOK Tryz.prog 50 ([.d (ndD s), .d (.int .u8 g)]) ([]) (.d (ndD (nAt s g))) ([]) := by
 refine fnOK_wp (p := (FnOK Tryz.prog 39 [AV.d (ndD s)] [] (vI (nChk s)) []) ∧ (condP (nChk s == (0 : Int)) ((AV.d (.agg [D.int .u8 g, D.int .i64 s.p, D.int .i64 s.e, D.int .u32 s.m, D.int .u32 s.h]) = AV.d (.agg [D.int .u8 (nAt s g).g, D.int .i64 (nAt s g).p, D.int .i64 (nAt s g).e, D.int .u32 (nAt s g).m, D.int .u32 (nAt s g).h])) ∧ True) ((AV.d (ndD s) = AV.d (.agg [D.int .u8 (nAt s g).g, D.int .i64 (nAt s g).p, D.int .i64 (nAt s g).e, D.int .u32 (nAt s g).m, D.int .u32 (nAt s g).h])) ∧ True))) (h := {G := G1}) (subs := []) (ws := []) (ρ := []) (by kernel_rfl) ?_
 refine ⟨chk14 s, condP_eq (fun h => ?_) (fun h => ?_)⟩
 ·rw [nAt_yes h]; exact ⟨rfl, trivial⟩
 ·rw [nAt_no h]; exact ⟨rfl, trivial⟩
end Go.Proofs.YtalpfhpeaaocmaaGreat.C13
end
section
namespace Go.Proofs.YtalpfhpeaaocmaaGreat.C13
open Sx Go.RowKit
def gSg (r : Sg → AV) : List D → Option (AV × List Ob) := fun | [.agg [.int _ f, .int _ p, .int _ e, .int _ q, .int _ a, .int _ w, .sl k, .str t]] => some (r ⟨f, p, e, q, a, w, k, t⟩, []) | _ => none
def gSg2 (r : Sg → Int → AV) : List D → Option (AV × List Ob) := fun | [.agg [.int _ f, .int _ p, .int _ e, .int _ q, .int _ a, .int _ w, .sl k, .str t], .int _ n] => some (r ⟨f, p, e, q, a, w, k, t⟩ n, []) | _ => none
def gNS (r : Nd → Sg → AV) : List D → Option (AV × List Ob) := fun | [.agg [.int _ g, .int _ p', .int _ e', .int _ m, .int _ h], .agg [.int _ f, .int _ p, .int _ e, .int _ q, .int _ a, .int _ w, .sl k, .str t]] => some (r ⟨g, p', e', m, h⟩ ⟨f, p, e, q, a, w, k, t⟩, []) | _ => none
def gNIS (r : Nd → Int → Sg → AV) : List D → Option (AV × List Ob) := fun | [.agg [.int _ g, .int _ p', .int _ e', .int _ m, .int _ h], .int _ n, .agg [.int _ f, .int _ p, .int _ e, .int _ q, .int _ a, .int _ w, .sl k, .str t]] => some (r ⟨g, p', e', m, h⟩ n ⟨f, p, e, q, a, w, k, t⟩, []) | _ => none
def G2 : List (Nat × (List D → Option (AV × List Ob))) := G1 ++ [
 (50, gNd2 fun s g => .d (ndD (nAt s g))),
 (44, gNd fun s => .d (ndD (nAsk s))),
 (99999, gNd fun s => .d (ndD (nAsk s))),
 (25, gNd fun s => .d (ndD (nAt s 4))),
 (99999, gNd fun s => .d (ndD (nAt s 4))),
 (59, gNIS fun s g x => .d (ndD (nMet s g x.q))),
 (99999, gNIS fun s g x => .d (ndD (nMet s g x.q))),
 (57, gSg2 fun x k => .d (.bool (hasB x.f k))),
 (99999, gSg2 fun x k => .d (.bool (hasB x.f k))),
 (56, gSg fun x => .d (.int .i64 (gChk x))),
 (99999, gSg fun x => .d (.int .i64 (gChk x))),
 (30, gNS fun s x => .d (.bool (nFit s x))),
 (99999, gNS fun s x => .d (.bool (nFit s x)))]
theorem nAsk_yes {s : Nd} (h : s.g = 0) : nAsk s = nAt s 1 := if_pos h
theorem nAsk_no {s : Nd} (h : s.g ≠ 0) : nAsk s = s := if_neg h
theorem flags_nat : ∀ n : Nat, n < 256 → (bitsI BinOp.andNot IntKind.u8 (n : Int) 31 = 0 ↔ n < 32) := by decide +kernel
attribute [local irreducible] hasB
theorem flags_ok {f : Int} (f0 : 0 ≤ f) (f1 : f < 256) : bitsI BinOp.andNot IntKind.u8 f 31 = 0 ↔ f ≤ 31 := by
 obtain ⟨n, rfl⟩ := Int.eq_ofNat_of_zero_le f0
 have := flags_nat n (by omega)
 omega
theorem behind32 (a n : Int) : FnOK Tryz.prog 60 ([.d (.int .u32 a), .d (.int .u32 n)]) ([]) (.d (.bool (aBehind a n))) ([]) := by
 refine fnOK_wp (p := (FnOK Tryz.prog 58 [vW n, vI 1] [] (vW (aAdd n (1 : Int))) []) ∧ (FnOK Tryz.prog 87 [vW a, vW (aAdd n (1 : Int)), vI 2147483648] [] (vB (aIn a (aAdd n (1 : Int)) (2147483648 : Int))) []) ∧ (vB (aIn a (aAdd n (1 : Int)) (2147483648 : Int)) = vB (aBehind a n)) ∧ True) (h := {G := G1}) (subs := []) (ws := []) (ρ := []) (by kernel_rfl) ?_
 exact ⟨add30 n 1, in39 a _ _ (by decide), rfl, trivial⟩
theorem kill22 (s : Nd) : FnOK Tryz.prog 25 ([.d (ndD s)]) ([]) (.d (ndD (nAt s 4))) ([]) := by
 refine fnOK_wp (p := (FnOK Tryz.prog 50 [AV.d (ndD s), vU 4] [] (AV.d (.agg [D.int .u8 (nAt s (4 : Int)).g, D.int .i64 (nAt s (4 : Int)).p, D.int .i64 (nAt s (4 : Int)).e, D.int .u32 (nAt s (4 : Int)).m, D.int .u32 (nAt s (4 : Int)).h])) []) ∧ (rf (AV.d (.agg [D.int .u8 (nAt s (4 : Int)).g, D.int .i64 (nAt s (4 : Int)).p, D.int .i64 (nAt s (4 : Int)).e, D.int .u32 (nAt s (4 : Int)).m, D.int .u32 (nAt s (4 : Int)).h]))) ∧ True) (h := {G := G2}) (subs := []) (ws := []) (ρ := []) (by kernel_rfl) ?_
 exact ⟨at29 s 4, rfl, trivial⟩
theorem ask11 (s : Nd) : FnOK Tryz.prog 44 ([.d (ndD s)]) ([]) (.d (ndD (nAsk s))) ([]) := by
 refine fnOK_wp (p := condP (s.g != (0 : Int)) ((AV.d (ndD s) = AV.d (.agg [D.int .u8 (nAsk s).g, D.int .i64 (nAsk s).p, D.int .i64 (nAsk s).e, D.int .u32 (nAsk s).m, D.int .u32 (nAsk s).h])) ∧ True) ((FnOK Tryz.prog 50 [AV.d (ndD s), vU 1] [] (AV.d (.agg [D.int .u8 (nAt s (1 : Int)).g, D.int .i64 (nAt s (1 : Int)).p, D.int .i64 (nAt s (1 : Int)).e, D.int .u32 (nAt s (1 : Int)).m, D.int .u32 (nAt s (1 : Int)).h])) []) ∧ (AV.d (.agg [D.int .u8 (nAt s (1 : Int)).g, D.int .i64 (nAt s (1 : Int)).p, D.int .i64 (nAt s (1 : Int)).e, D.int .u32 (nAt s (1 : Int)).m, D.int .u32 (nAt s (1 : Int)).h]) = AV.d (.agg [D.int .u8 (nAsk s).g, D.int .i64 (nAsk s).p, D.int .i64 (nAsk s).e, D.int .u32 (nAsk s).m, D.int .u32 (nAsk s).h])) ∧ True)) (h := {G := G2}) (subs := []) (ws := []) (ρ := []) (by kernel_rfl) ?_
 refine condP_ne (fun h => ?_) (fun h => ?_)
 ·rw [nAsk_no h]; exact ⟨rfl, trivial⟩
 ·rw [nAsk_yes h]; exact ⟨at29 s 1, rfl, trivial⟩
theorem chk16 (x : Sg) (f0 : 0 ≤ x.f) (f1 : x.f < 256) : FnOK Tryz.prog 56 ([.d (sgD x)]) ([]) (.d (.int .i64 (gChk x))) ([]) := by
 refine fnOK_wp (p := condP (decide ((↑x.k.length : Int) > (0 : Int))) ((D.bool (decide ((↑x.k.length : Int) > (0 : Int))) = D.bool true) ∧ (condP (hasB x.f (1 : Int)) ((FnOK Tryz.prog 57 [AV.d (sgD x), vU 1] [] (vB (hasB x.f (1 : Int))) []) ∧ (D.bool (hasB x.f (1 : Int)) = D.bool true) ∧ (condP (bitsI BinOp.andNot IntKind.u8 x.f (31 : Int) != (0 : Int)) ((vI 12 = vI (gChk x)) ∧ True) ((FnOK Tryz.prog 86 [vI x.p, vI 3] [] (vB (decide ((0 : Int) ≤ x.p ∧ x.p ≤ (3 : Int)))) []) ∧ (condP (!decide ((0 : Int) ≤ x.p ∧ x.p ≤ (3 : Int))) (condP (!decide ((0 : Int) ≤ x.p ∧ x.p ≤ (3 : Int))) ((vI 8 = vI (gChk x)) ∧ True) (condP (decide ((↑x.k.length : Int) > (3 : Int))) (condP (decide ((↑x.k.length : Int) > (3 : Int))) ((vI 5 = vI (gChk x)) ∧ True) ((rf (D.bool true)) ∧ (FnOK Tryz.prog 57 [AV.d (sgD x), vU 2] [] (vB (hasB x.f (2 : Int))) []) ∧ (condP (!hasB x.f (2 : Int)) (condP (!hasB x.f (2 : Int)) ((vI 4 = vI (gChk x)) ∧ True) ((vI 0 = vI (gChk x)) ∧ True)) ((rf (D.bool true)) ∧ (condP (!x.t == []) ((vI 4 = vI (gChk x)) ∧ True) ((vI 0 = vI (gChk x)) ∧ True)))))) (condP (decide ((↑x.t.length : Int) > (48 : Int))) ((vI 5 = vI (gChk x)) ∧ True) ((rf (D.bool true)) ∧ (FnOK Tryz.prog 57 [AV.d (sgD x), vU 2] [] (vB (hasB x.f (2 : Int))) []) ∧ (condP (!hasB x.f (2 : Int)) (condP (!hasB x.f (2 : Int)) ((vI 4 = vI (gChk x)) ∧ True) ((vI 0 = vI (gChk x)) ∧ True)) ((rf (D.bool true)) ∧ (condP (!x.t == []) ((vI 4 = vI (gChk x)) ∧ True) ((vI 0 = vI (gChk x)) ∧ True)))))))) ((FnOK Tryz.prog 86 [vI x.e, vI 65535] [] (vB (decide ((0 : Int) ≤ x.e ∧ x.e ≤ (65535 : Int)))) []) ∧ (condP (!decide ((0 : Int) ≤ x.e ∧ x.e ≤ (65535 : Int))) (condP (!decide ((0 : Int) ≤ x.e ∧ x.e ≤ (65535 : Int))) ((vI 8 = vI (gChk x)) ∧ True) (condP (decide ((↑x.k.length : Int) > (3 : Int))) (condP (decide ((↑x.k.length : Int) > (3 : Int))) ((vI 5 = vI (gChk x)) ∧ True) ((rf (D.bool true)) ∧ (FnOK Tryz.prog 57 [AV.d (sgD x), vU 2] [] (vB (hasB x.f (2 : Int))) []) ∧ (condP (!hasB x.f (2 : Int)) (condP (!hasB x.f (2 : Int)) ((vI 4 = vI (gChk x)) ∧ True) ((vI 0 = vI (gChk x)) ∧ True)) ((rf (D.bool true)) ∧ (condP (!x.t == []) ((vI 4 = vI (gChk x)) ∧ True) ((vI 0 = vI (gChk x)) ∧ True)))))) (condP (decide ((↑x.t.length : Int) > (48 : Int))) ((vI 5 = vI (gChk x)) ∧ True) ((rf (D.bool true)) ∧ (FnOK Tryz.prog 57 [AV.d (sgD x), vU 2] [] (vB (hasB x.f (2 : Int))) []) ∧ (condP (!hasB x.f (2 : Int)) (condP (!hasB x.f (2 : Int)) ((vI 4 = vI (gChk x)) ∧ True) ((vI 0 = vI (gChk x)) ∧ True)) ((rf (D.bool true)) ∧ (condP (!x.t == []) ((vI 4 = vI (gChk x)) ∧ True) ((vI 0 = vI (gChk x)) ∧ True)))))))) ((FnOK Tryz.prog 86 [vI x.w, vI 65535] [] (vB (decide ((0 : Int) ≤ x.w ∧ x.w ≤ (65535 : Int)))) []) ∧ (condP (!decide ((0 : Int) ≤ x.w ∧ x.w ≤ (65535 : Int))) ((vI 8 = vI (gChk x)) ∧ True) (condP (decide ((↑x.k.length : Int) > (3 : Int))) (condP (decide ((↑x.k.length : Int) > (3 : Int))) ((vI 5 = vI (gChk x)) ∧ True) ((rf (D.bool true)) ∧ (FnOK Tryz.prog 57 [AV.d (sgD x), vU 2] [] (vB (hasB x.f (2 : Int))) []) ∧ (condP (!hasB x.f (2 : Int)) (condP (!hasB x.f (2 : Int)) ((vI 4 = vI (gChk x)) ∧ True) ((vI 0 = vI (gChk x)) ∧ True)) ((rf (D.bool true)) ∧ (condP (!x.t == []) ((vI 4 = vI (gChk x)) ∧ True) ((vI 0 = vI (gChk x)) ∧ True)))))) (condP (decide ((↑x.t.length : Int) > (48 : Int))) ((vI 5 = vI (gChk x)) ∧ True) ((rf (D.bool true)) ∧ (FnOK Tryz.prog 57 [AV.d (sgD x), vU 2] [] (vB (hasB x.f (2 : Int))) []) ∧ (condP (!hasB x.f (2 : Int)) (condP (!hasB x.f (2 : Int)) ((vI 4 = vI (gChk x)) ∧ True) ((vI 0 = vI (gChk x)) ∧ True)) ((rf (D.bool true)) ∧ (condP (!x.t == []) ((vI 4 = vI (gChk x)) ∧ True) ((vI 0 = vI (gChk x)) ∧ True))))))))))))))) ((FnOK Tryz.prog 57 [AV.d (sgD x), vU 1] [] (vB (hasB x.f (1 : Int))) []) ∧ (D.bool (hasB x.f (1 : Int)) = D.bool false) ∧ (FnOK Tryz.prog 57 [AV.d (sgD x), vU 8] [] (vB (hasB x.f (8 : Int))) []) ∧ (condP (bitsI BinOp.andNot IntKind.u8 x.f (31 : Int) != (0 : Int)) ((vI 12 = vI (gChk x)) ∧ True) ((FnOK Tryz.prog 86 [vI x.p, vI 3] [] (vB (decide ((0 : Int) ≤ x.p ∧ x.p ≤ (3 : Int)))) []) ∧ (condP (!decide ((0 : Int) ≤ x.p ∧ x.p ≤ (3 : Int))) (condP (!decide ((0 : Int) ≤ x.p ∧ x.p ≤ (3 : Int))) ((vI 8 = vI (gChk x)) ∧ True) (condP (decide ((↑x.k.length : Int) > (3 : Int))) (condP (decide ((↑x.k.length : Int) > (3 : Int))) ((vI 5 = vI (gChk x)) ∧ True) ((rf (D.bool true)) ∧ (FnOK Tryz.prog 57 [AV.d (sgD x), vU 2] [] (vB (hasB x.f (2 : Int))) []) ∧ (condP (!hasB x.f (2 : Int)) (condP (!hasB x.f (2 : Int)) ((vI 4 = vI (gChk x)) ∧ True) ((vI 0 = vI (gChk x)) ∧ True)) (condP (hasB x.f (8 : Int)) ((D.bool (hasB x.f (8 : Int)) = D.bool true) ∧ (condP (!x.t == []) ((vI 4 = vI (gChk x)) ∧ True) ((vI 0 = vI (gChk x)) ∧ True))) ((D.bool (hasB x.f (8 : Int)) = D.bool false) ∧ (vI 0 = vI (gChk x)) ∧ True))))) (condP (decide ((↑x.t.length : Int) > (48 : Int))) ((vI 5 = vI (gChk x)) ∧ True) ((rf (D.bool true)) ∧ (FnOK Tryz.prog 57 [AV.d (sgD x), vU 2] [] (vB (hasB x.f (2 : Int))) []) ∧ (condP (!hasB x.f (2 : Int)) (condP (!hasB x.f (2 : Int)) ((vI 4 = vI (gChk x)) ∧ True) ((vI 0 = vI (gChk x)) ∧ True)) (condP (hasB x.f (8 : Int)) ((D.bool (hasB x.f (8 : Int)) = D.bool true) ∧ (condP (!x.t == []) ((vI 4 = vI (gChk x)) ∧ True) ((vI 0 = vI (gChk x)) ∧ True))) ((D.bool (hasB x.f (8 : Int)) = D.bool false) ∧ (vI 0 = vI (gChk x)) ∧ True))))))) ((FnOK Tryz.prog 86 [vI x.e, vI 65535] [] (vB (decide ((0 : Int) ≤ x.e ∧ x.e ≤ (65535 : Int)))) []) ∧ (condP (!decide ((0 : Int) ≤ x.e ∧ x.e ≤ (65535 : Int))) (condP (!decide ((0 : Int) ≤ x.e ∧ x.e ≤ (65535 : Int))) ((vI 8 = vI (gChk x)) ∧ True) (condP (decide ((↑x.k.length : Int) > (3 : Int))) (condP (decide ((↑x.k.length : Int) > (3 : Int))) ((vI 5 = vI (gChk x)) ∧ True) ((rf (D.bool true)) ∧ (FnOK Tryz.prog 57 [AV.d (sgD x), vU 2] [] (vB (hasB x.f (2 : Int))) []) ∧ (condP (!hasB x.f (2 : Int)) (condP (!hasB x.f (2 : Int)) ((vI 4 = vI (gChk x)) ∧ True) ((vI 0 = vI (gChk x)) ∧ True)) (condP (hasB x.f (8 : Int)) ((D.bool (hasB x.f (8 : Int)) = D.bool true) ∧ (condP (!x.t == []) ((vI 4 = vI (gChk x)) ∧ True) ((vI 0 = vI (gChk x)) ∧ True))) ((D.bool (hasB x.f (8 : Int)) = D.bool false) ∧ (vI 0 = vI (gChk x)) ∧ True))))) (condP (decide ((↑x.t.length : Int) > (48 : Int))) ((vI 5 = vI (gChk x)) ∧ True) ((rf (D.bool true)) ∧ (FnOK Tryz.prog 57 [AV.d (sgD x), vU 2] [] (vB (hasB x.f (2 : Int))) []) ∧ (condP (!hasB x.f (2 : Int)) (condP (!hasB x.f (2 : Int)) ((vI 4 = vI (gChk x)) ∧ True) ((vI 0 = vI (gChk x)) ∧ True)) (condP (hasB x.f (8 : Int)) ((D.bool (hasB x.f (8 : Int)) = D.bool true) ∧ (condP (!x.t == []) ((vI 4 = vI (gChk x)) ∧ True) ((vI 0 = vI (gChk x)) ∧ True))) ((D.bool (hasB x.f (8 : Int)) = D.bool false) ∧ (vI 0 = vI (gChk x)) ∧ True))))))) ((FnOK Tryz.prog 86 [vI x.w, vI 65535] [] (vB (decide ((0 : Int) ≤ x.w ∧ x.w ≤ (65535 : Int)))) []) ∧ (condP (!decide ((0 : Int) ≤ x.w ∧ x.w ≤ (65535 : Int))) ((vI 8 = vI (gChk x)) ∧ True) (condP (decide ((↑x.k.length : Int) > (3 : Int))) (condP (decide ((↑x.k.length : Int) > (3 : Int))) ((vI 5 = vI (gChk x)) ∧ True) ((rf (D.bool true)) ∧ (FnOK Tryz.prog 57 [AV.d (sgD x), vU 2] [] (vB (hasB x.f (2 : Int))) []) ∧ (condP (!hasB x.f (2 : Int)) (condP (!hasB x.f (2 : Int)) ((vI 4 = vI (gChk x)) ∧ True) ((vI 0 = vI (gChk x)) ∧ True)) (condP (hasB x.f (8 : Int)) ((D.bool (hasB x.f (8 : Int)) = D.bool true) ∧ (condP (!x.t == []) ((vI 4 = vI (gChk x)) ∧ True) ((vI 0 = vI (gChk x)) ∧ True))) ((D.bool (hasB x.f (8 : Int)) = D.bool false) ∧ (vI 0 = vI (gChk x)) ∧ True))))) (condP (decide ((↑x.t.length : Int) > (48 : Int))) ((vI 5 = vI (gChk x)) ∧ True) ((rf (D.bool true)) ∧ (FnOK Tryz.prog 57 [AV.d (sgD x), vU 2] [] (vB (hasB x.f (2 : Int))) []) ∧ (condP (!hasB x.f (2 : Int)) (condP (!hasB x.f (2 : Int)) ((vI 4 = vI (gChk x)) ∧ True) ((vI 0 = vI (gChk x)) ∧ True)) (condP (hasB x.f (8 : Int)) ((D.bool (hasB x.f (8 : Int)) = D.bool true) ∧ (condP (!x.t == []) ((vI 4 = vI (gChk x)) ∧ True) ((vI 0 = vI (gChk x)) ∧ True))) ((D.bool (hasB x.f (8 : Int)) = D.bool false) ∧ (vI 0 = vI (gChk x)) ∧ True)))))))))))))))) ((D.bool (decide ((↑x.k.length : Int) > (0 : Int))) = D.bool false) ∧ (condP (hasB x.f (1 : Int)) ((FnOK Tryz.prog 57 [AV.d (sgD x), vU 1] [] (vB (hasB x.f (1 : Int))) []) ∧ (D.bool (hasB x.f (1 : Int)) = D.bool true) ∧ (condP (bitsI BinOp.andNot IntKind.u8 x.f (31 : Int) != (0 : Int)) ((vI 12 = vI (gChk x)) ∧ True) ((FnOK Tryz.prog 86 [vI x.p, vI 3] [] (vB (decide ((0 : Int) ≤ x.p ∧ x.p ≤ (3 : Int)))) []) ∧ (condP (!decide ((0 : Int) ≤ x.p ∧ x.p ≤ (3 : Int))) (condP (!decide ((0 : Int) ≤ x.p ∧ x.p ≤ (3 : Int))) ((vI 8 = vI (gChk x)) ∧ True) (condP (decide ((↑x.k.length : Int) > (3 : Int))) (condP (decide ((↑x.k.length : Int) > (3 : Int))) ((vI 5 = vI (gChk x)) ∧ True) (condP (x.a != (0 : Int)) ((D.bool (x.a != (0 : Int)) = D.bool true) ∧ (FnOK Tryz.prog 57 [AV.d (sgD x), vU 2] [] (vB (hasB x.f (2 : Int))) []) ∧ (condP (!hasB x.f (2 : Int)) (condP (!hasB x.f (2 : Int)) ((vI 4 = vI (gChk x)) ∧ True) ((vI 0 = vI (gChk x)) ∧ True)) ((rf (D.bool true)) ∧ (condP (!x.t == []) ((vI 4 = vI (gChk x)) ∧ True) ((vI 0 = vI (gChk x)) ∧ True))))) ((D.bool (x.a != (0 : Int)) = D.bool false) ∧ (rf (D.bool true)) ∧ (condP (!x.t == []) ((vI 4 = vI (gChk x)) ∧ True) ((vI 0 = vI (gChk x)) ∧ True))))) (condP (decide ((↑x.t.length : Int) > (48 : Int))) ((vI 5 = vI (gChk x)) ∧ True) (condP (x.a != (0 : Int)) ((D.bool (x.a != (0 : Int)) = D.bool true) ∧ (FnOK Tryz.prog 57 [AV.d (sgD x), vU 2] [] (vB (hasB x.f (2 : Int))) []) ∧ (condP (!hasB x.f (2 : Int)) (condP (!hasB x.f (2 : Int)) ((vI 4 = vI (gChk x)) ∧ True) ((vI 0 = vI (gChk x)) ∧ True)) ((rf (D.bool true)) ∧ (condP (!x.t == []) ((vI 4 = vI (gChk x)) ∧ True) ((vI 0 = vI (gChk x)) ∧ True))))) ((D.bool (x.a != (0 : Int)) = D.bool false) ∧ (rf (D.bool true)) ∧ (condP (!x.t == []) ((vI 4 = vI (gChk x)) ∧ True) ((vI 0 = vI (gChk x)) ∧ True))))))) ((FnOK Tryz.prog 86 [vI x.e, vI 65535] [] (vB (decide ((0 : Int) ≤ x.e ∧ x.e ≤ (65535 : Int)))) []) ∧ (condP (!decide ((0 : Int) ≤ x.e ∧ x.e ≤ (65535 : Int))) (condP (!decide ((0 : Int) ≤ x.e ∧ x.e ≤ (65535 : Int))) ((vI 8 = vI (gChk x)) ∧ True) (condP (decide ((↑x.k.length : Int) > (3 : Int))) (condP (decide ((↑x.k.length : Int) > (3 : Int))) ((vI 5 = vI (gChk x)) ∧ True) (condP (x.a != (0 : Int)) ((D.bool (x.a != (0 : Int)) = D.bool true) ∧ (FnOK Tryz.prog 57 [AV.d (sgD x), vU 2] [] (vB (hasB x.f (2 : Int))) []) ∧ (condP (!hasB x.f (2 : Int)) (condP (!hasB x.f (2 : Int)) ((vI 4 = vI (gChk x)) ∧ True) ((vI 0 = vI (gChk x)) ∧ True)) ((rf (D.bool true)) ∧ (condP (!x.t == []) ((vI 4 = vI (gChk x)) ∧ True) ((vI 0 = vI (gChk x)) ∧ True))))) ((D.bool (x.a != (0 : Int)) = D.bool false) ∧ (rf (D.bool true)) ∧ (condP (!x.t == []) ((vI 4 = vI (gChk x)) ∧ True) ((vI 0 = vI (gChk x)) ∧ True))))) (condP (decide ((↑x.t.length : Int) > (48 : Int))) ((vI 5 = vI (gChk x)) ∧ True) (condP (x.a != (0 : Int)) ((D.bool (x.a != (0 : Int)) = D.bool true) ∧ (FnOK Tryz.prog 57 [AV.d (sgD x), vU 2] [] (vB (hasB x.f (2 : Int))) []) ∧ (condP (!hasB x.f (2 : Int)) (condP (!hasB x.f (2 : Int)) ((vI 4 = vI (gChk x)) ∧ True) ((vI 0 = vI (gChk x)) ∧ True)) ((rf (D.bool true)) ∧ (condP (!x.t == []) ((vI 4 = vI (gChk x)) ∧ True) ((vI 0 = vI (gChk x)) ∧ True))))) ((D.bool (x.a != (0 : Int)) = D.bool false) ∧ (rf (D.bool true)) ∧ (condP (!x.t == []) ((vI 4 = vI (gChk x)) ∧ True) ((vI 0 = vI (gChk x)) ∧ True))))))) ((FnOK Tryz.prog 86 [vI x.w, vI 65535] [] (vB (decide ((0 : Int) ≤ x.w ∧ x.w ≤ (65535 : Int)))) []) ∧ (condP (!decide ((0 : Int) ≤ x.w ∧ x.w ≤ (65535 : Int))) ((vI 8 = vI (gChk x)) ∧ True) (condP (decide ((↑x.k.length : Int) > (3 : Int))) (condP (decide ((↑x.k.length : Int) > (3 : Int))) ((vI 5 = vI (gChk x)) ∧ True) (condP (x.a != (0 : Int)) ((D.bool (x.a != (0 : Int)) = D.bool true) ∧ (FnOK Tryz.prog 57 [AV.d (sgD x), vU 2] [] (vB (hasB x.f (2 : Int))) []) ∧ (condP (!hasB x.f (2 : Int)) (condP (!hasB x.f (2 : Int)) ((vI 4 = vI (gChk x)) ∧ True) ((vI 0 = vI (gChk x)) ∧ True)) ((rf (D.bool true)) ∧ (condP (!x.t == []) ((vI 4 = vI (gChk x)) ∧ True) ((vI 0 = vI (gChk x)) ∧ True))))) ((D.bool (x.a != (0 : Int)) = D.bool false) ∧ (rf (D.bool true)) ∧ (condP (!x.t == []) ((vI 4 = vI (gChk x)) ∧ True) ((vI 0 = vI (gChk x)) ∧ True))))) (condP (decide ((↑x.t.length : Int) > (48 : Int))) ((vI 5 = vI (gChk x)) ∧ True) (condP (x.a != (0 : Int)) ((D.bool (x.a != (0 : Int)) = D.bool true) ∧ (FnOK Tryz.prog 57 [AV.d (sgD x), vU 2] [] (vB (hasB x.f (2 : Int))) []) ∧ (condP (!hasB x.f (2 : Int)) (condP (!hasB x.f (2 : Int)) ((vI 4 = vI (gChk x)) ∧ True) ((vI 0 = vI (gChk x)) ∧ True)) ((rf (D.bool true)) ∧ (condP (!x.t == []) ((vI 4 = vI (gChk x)) ∧ True) ((vI 0 = vI (gChk x)) ∧ True))))) ((D.bool (x.a != (0 : Int)) = D.bool false) ∧ (rf (D.bool true)) ∧ (condP (!x.t == []) ((vI 4 = vI (gChk x)) ∧ True) ((vI 0 = vI (gChk x)) ∧ True)))))))))))))) ((FnOK Tryz.prog 57 [AV.d (sgD x), vU 1] [] (vB (hasB x.f (1 : Int))) []) ∧ (D.bool (hasB x.f (1 : Int)) = D.bool false) ∧ (FnOK Tryz.prog 57 [AV.d (sgD x), vU 8] [] (vB (hasB x.f (8 : Int))) []) ∧ (condP (bitsI BinOp.andNot IntKind.u8 x.f (31 : Int) != (0 : Int)) ((vI 12 = vI (gChk x)) ∧ True) ((FnOK Tryz.prog 86 [vI x.p, vI 3] [] (vB (decide ((0 : Int) ≤ x.p ∧ x.p ≤ (3 : Int)))) []) ∧ (condP (!decide ((0 : Int) ≤ x.p ∧ x.p ≤ (3 : Int))) (condP (!decide ((0 : Int) ≤ x.p ∧ x.p ≤ (3 : Int))) ((vI 8 = vI (gChk x)) ∧ True) (condP (decide ((↑x.k.length : Int) > (3 : Int))) (condP (decide ((↑x.k.length : Int) > (3 : Int))) ((vI 5 = vI (gChk x)) ∧ True) (condP (x.a != (0 : Int)) ((D.bool (x.a != (0 : Int)) = D.bool true) ∧ (FnOK Tryz.prog 57 [AV.d (sgD x), vU 2] [] (vB (hasB x.f (2 : Int))) []) ∧ (condP (!hasB x.f (2 : Int)) (condP (!hasB x.f (2 : Int)) ((vI 4 = vI (gChk x)) ∧ True) ((vI 0 = vI (gChk x)) ∧ True)) (condP (hasB x.f (8 : Int)) ((D.bool (hasB x.f (8 : Int)) = D.bool true) ∧ (condP (!x.t == []) ((vI 4 = vI (gChk x)) ∧ True) ((vI 0 = vI (gChk x)) ∧ True))) ((D.bool (hasB x.f (8 : Int)) = D.bool false) ∧ (vI 0 = vI (gChk x)) ∧ True)))) ((D.bool (x.a != (0 : Int)) = D.bool false) ∧ (condP (hasB x.f (8 : Int)) ((D.bool (hasB x.f (8 : Int)) = D.bool true) ∧ (condP (!x.t == []) ((vI 4 = vI (gChk x)) ∧ True) ((vI 0 = vI (gChk x)) ∧ True))) ((D.bool (hasB x.f (8 : Int)) = D.bool false) ∧ (vI 0 = vI (gChk x)) ∧ True))))) (condP (decide ((↑x.t.length : Int) > (48 : Int))) ((vI 5 = vI (gChk x)) ∧ True) (condP (x.a != (0 : Int)) ((D.bool (x.a != (0 : Int)) = D.bool true) ∧ (FnOK Tryz.prog 57 [AV.d (sgD x), vU 2] [] (vB (hasB x.f (2 : Int))) []) ∧ (condP (!hasB x.f (2 : Int)) (condP (!hasB x.f (2 : Int)) ((vI 4 = vI (gChk x)) ∧ True) ((vI 0 = vI (gChk x)) ∧ True)) (condP (hasB x.f (8 : Int)) ((D.bool (hasB x.f (8 : Int)) = D.bool true) ∧ (condP (!x.t == []) ((vI 4 = vI (gChk x)) ∧ True) ((vI 0 = vI (gChk x)) ∧ True))) ((D.bool (hasB x.f (8 : Int)) = D.bool false) ∧ (vI 0 = vI (gChk x)) ∧ True)))) ((D.bool (x.a != (0 : Int)) = D.bool false) ∧ (condP (hasB x.f (8 : Int)) ((D.bool (hasB x.f (8 : Int)) = D.bool true) ∧ (condP (!x.t == []) ((vI 4 = vI (gChk x)) ∧ True) ((vI 0 = vI (gChk x)) ∧ True))) ((D.bool (hasB x.f (8 : Int)) = D.bool false) ∧ (vI 0 = vI (gChk x)) ∧ True))))))) ((FnOK Tryz.prog 86 [vI x.e, vI 65535] [] (vB (decide ((0 : Int) ≤ x.e ∧ x.e ≤ (65535 : Int)))) []) ∧ (condP (!decide ((0 : Int) ≤ x.e ∧ x.e ≤ (65535 : Int))) (condP (!decide ((0 : Int) ≤ x.e ∧ x.e ≤ (65535 : Int))) ((vI 8 = vI (gChk x)) ∧ True) (condP (decide ((↑x.k.length : Int) > (3 : Int))) (condP (decide ((↑x.k.length : Int) > (3 : Int))) ((vI 5 = vI (gChk x)) ∧ True) (condP (x.a != (0 : Int)) ((D.bool (x.a != (0 : Int)) = D.bool true) ∧ (FnOK Tryz.prog 57 [AV.d (sgD x), vU 2] [] (vB (hasB x.f (2 : Int))) []) ∧ (condP (!hasB x.f (2 : Int)) (condP (!hasB x.f (2 : Int)) ((vI 4 = vI (gChk x)) ∧ True) ((vI 0 = vI (gChk x)) ∧ True)) (condP (hasB x.f (8 : Int)) ((D.bool (hasB x.f (8 : Int)) = D.bool true) ∧ (condP (!x.t == []) ((vI 4 = vI (gChk x)) ∧ True) ((vI 0 = vI (gChk x)) ∧ True))) ((D.bool (hasB x.f (8 : Int)) = D.bool false) ∧ (vI 0 = vI (gChk x)) ∧ True)))) ((D.bool (x.a != (0 : Int)) = D.bool false) ∧ (condP (hasB x.f (8 : Int)) ((D.bool (hasB x.f (8 : Int)) = D.bool true) ∧ (condP (!x.t == []) ((vI 4 = vI (gChk x)) ∧ True) ((vI 0 = vI (gChk x)) ∧ True))) ((D.bool (hasB x.f (8 : Int)) = D.bool false) ∧ (vI 0 = vI (gChk x)) ∧ True))))) (condP (decide ((↑x.t.length : Int) > (48 : Int))) ((vI 5 = vI (gChk x)) ∧ True) (condP (x.a != (0 : Int)) ((D.bool (x.a != (0 : Int)) = D.bool true) ∧ (FnOK Tryz.prog 57 [AV.d (sgD x), vU 2] [] (vB (hasB x.f (2 : Int))) []) ∧ (condP (!hasB x.f (2 : Int)) (condP (!hasB x.f (2 : Int)) ((vI 4 = vI (gChk x)) ∧ True) ((vI 0 = vI (gChk x)) ∧ True)) (condP (hasB x.f (8 : Int)) ((D.bool (hasB x.f (8 : Int)) = D.bool true) ∧ (condP (!x.t == []) ((vI 4 = vI (gChk x)) ∧ True) ((vI 0 = vI (gChk x)) ∧ True))) ((D.bool (hasB x.f (8 : Int)) = D.bool false) ∧ (vI 0 = vI (gChk x)) ∧ True)))) ((D.bool (x.a != (0 : Int)) = D.bool false) ∧ (condP (hasB x.f (8 : Int)) ((D.bool (hasB x.f (8 : Int)) = D.bool true) ∧ (condP (!x.t == []) ((vI 4 = vI (gChk x)) ∧ True) ((vI 0 = vI (gChk x)) ∧ True))) ((D.bool (hasB x.f (8 : Int)) = D.bool false) ∧ (vI 0 = vI (gChk x)) ∧ True))))))) ((FnOK Tryz.prog 86 [vI x.w, vI 65535] [] (vB (decide ((0 : Int) ≤ x.w ∧ x.w ≤ (65535 : Int)))) []) ∧ (condP (!decide ((0 : Int) ≤ x.w ∧ x.w ≤ (65535 : Int))) ((vI 8 = vI (gChk x)) ∧ True) (condP (decide ((↑x.k.length : Int) > (3 : Int))) (condP (decide ((↑x.k.length : Int) > (3 : Int))) ((vI 5 = vI (gChk x)) ∧ True) (condP (x.a != (0 : Int)) ((D.bool (x.a != (0 : Int)) = D.bool true) ∧ (FnOK Tryz.prog 57 [AV.d (sgD x), vU 2] [] (vB (hasB x.f (2 : Int))) []) ∧ (condP (!hasB x.f (2 : Int)) (condP (!hasB x.f (2 : Int)) ((vI 4 = vI (gChk x)) ∧ True) ((vI 0 = vI (gChk x)) ∧ True)) (condP (hasB x.f (8 : Int)) ((D.bool (hasB x.f (8 : Int)) = D.bool true) ∧ (condP (!x.t == []) ((vI 4 = vI (gChk x)) ∧ True) ((vI 0 = vI (gChk x)) ∧ True))) ((D.bool (hasB x.f (8 : Int)) = D.bool false) ∧ (vI 0 = vI (gChk x)) ∧ True)))) ((D.bool (x.a != (0 : Int)) = D.bool false) ∧ (condP (hasB x.f (8 : Int)) ((D.bool (hasB x.f (8 : Int)) = D.bool true) ∧ (condP (!x.t == []) ((vI 4 = vI (gChk x)) ∧ True) ((vI 0 = vI (gChk x)) ∧ True))) ((D.bool (hasB x.f (8 : Int)) = D.bool false) ∧ (vI 0 = vI (gChk x)) ∧ True))))) (condP (decide ((↑x.t.length : Int) > (48 : Int))) ((vI 5 = vI (gChk x)) ∧ True) (condP (x.a != (0 : Int)) ((D.bool (x.a != (0 : Int)) = D.bool true) ∧ (FnOK Tryz.prog 57 [AV.d (sgD x), vU 2] [] (vB (hasB x.f (2 : Int))) []) ∧ (condP (!hasB x.f (2 : Int)) (condP (!hasB x.f (2 : Int)) ((vI 4 = vI (gChk x)) ∧ True) ((vI 0 = vI (gChk x)) ∧ True)) (condP (hasB x.f (8 : Int)) ((D.bool (hasB x.f (8 : Int)) = D.bool true) ∧ (condP (!x.t == []) ((vI 4 = vI (gChk x)) ∧ True) ((vI 0 = vI (gChk x)) ∧ True))) ((D.bool (hasB x.f (8 : Int)) = D.bool false) ∧ (vI 0 = vI (gChk x)) ∧ True)))) ((D.bool (x.a != (0 : Int)) = D.bool false) ∧ (condP (hasB x.f (8 : Int)) ((D.bool (hasB x.f (8 : Int)) = D.bool true) ∧ (condP (!x.t == []) ((vI 4 = vI (gChk x)) ∧ True) ((vI 0 = vI (gChk x)) ∧ True))) ((D.bool (hasB x.f (8 : Int)) = D.bool false) ∧ (vI 0 = vI (gChk x)) ∧ True))))))))))))))))) (h := {G := G2}) (subs := []) (ws := []) (ρ := []) (by kernel_rfl) ?_
 have hf := flags_ok f0 f1
 repeat' (with_reducible first|exact ⟨⟩|apply And.intro|(first|apply zA|apply zB|apply zC|apply zD|apply zE|apply zF|apply zG)<;>intro)
 all_goals first | exact has28 _ _ | exact in33 _ _ | (simp_all; done) | skip
 all_goals (refine congrArg (fun z => AV.d (.int .i64 z)) ?_)
 all_goals (unfold gChk; repeat' split)
 all_goals first | rfl | omega | (exfalso; simp_all; done) | (exfalso; simp_all; omega) | skip
theorem fit15 (s : Nd) (x : Sg) (f0 : 0 ≤ x.f) (f1 : x.f < 256) : FnOK Tryz.prog 30 ([.d (ndD s), .d (sgD x)]) ([]) (.d (.bool (nFit s x))) ([]) := by
 refine fnOK_wp (p := condP (gChk x == (0 : Int)) (condP (x.p == s.p) ((FnOK Tryz.prog 56 [AV.d (sgD x)] [] (vI (gChk x)) []) ∧ (D.bool (gChk x == (0 : Int)) = D.bool true) ∧ (D.bool (x.p == s.p) = D.bool true) ∧ (vB (x.e == s.e) = vB (nFit s x)) ∧ True) ((FnOK Tryz.prog 56 [AV.d (sgD x)] [] (vI (gChk x)) []) ∧ (D.bool (gChk x == (0 : Int)) = D.bool true) ∧ (D.bool (x.p == s.p) = D.bool false) ∧ (vB false = vB (nFit s x)) ∧ True)) ((FnOK Tryz.prog 56 [AV.d (sgD x)] [] (vI (gChk x)) []) ∧ (D.bool (gChk x == (0 : Int)) = D.bool false) ∧ (rf (D.bool false)) ∧ (vB false = vB (nFit s x)) ∧ True)) (h := {G := G2}) (subs := []) (ws := []) (ρ := []) (by kernel_rfl) ?_
 repeat' (with_reducible first|exact ⟨⟩|apply And.intro|(first|apply zA|apply zB|apply zC|apply zD|apply zE|apply zF|apply zG)<;>intro)
 all_goals first | exact chk16 x f0 f1 | rfl | (simp_all; done) | (refine congrArg (fun z => AV.d (.bool z)) ?_; unfold nFit; simp_all; done) | (refine congrArg (fun z => AV.d (.bool z)) ?_; unfold nFit; rw [Bool.eq_iff_iff, beq_iff_eq, decide_eq_true_eq]; simp_all; done) | skip
end Go.Proofs.YtalpfhpeaaocmaaGreat.C13
end
section
namespace Go.Proofs.YtalpfhpeaaocmaaGreat.C13
open Sx Go.RowKit
attribute [local irreducible] hasB
end Go.Proofs.YtalpfhpeaaocmaaGreat.C13
end
section
namespace Go.Proofs.YtalpfhpeaaocmaaGreat.C13
open Sx Go.RowKit
def nOn (s : Nd) (x : Sg) : Nd :=
 if s.g = 4 ∨ nChk s ≠ 0 ∨ nFit s x = false then s
 else if s.g = 0 ∧ hasB x.f 1 = false then s
 else if hasB x.f 8 = true then nAt s 4
 else if s.g = 1 then (if hasB x.f 1 = true ∧ hasB x.f 2 = true ∧ x.a = aAdd s.m 1 then nMet s 3 x.q else if hasB x.f 1 = true ∧ hasB x.f 2 = false then nMet s 2 x.q else s)
 else if s.g = 0 then (if hasB x.f 2 = false then nMet s 2 x.q else s)
 else if s.g = 2 then (if hasB x.f 2 = true ∧ aBehind x.a s.m = true ∧ ((hasB x.f 1 = true ∧ x.q = s.h) ∨ aBehind x.q s.h = true) then nAt s 3 else s)
 else s
def sgZ : Sg := ⟨0, 0, 0, 0, 0, 0, [], []⟩
def nOut (s : Nd) : Sg := if nChk s = 0 ∧ s.g = 1 then ⟨1, s.p, s.e, s.m, 0, 65535, [], []⟩ else if nChk s = 0 ∧ s.g = 2 then ⟨3, s.p, s.e, s.m, aAdd s.h 1, 65535, [], []⟩ else sgZ
def nSays (s : Nd) : Bool := decide (nChk s = 0 ∧ (s.g = 1 ∨ s.g = 2))
attribute [local irreducible] hasB aBehind aAdd nFit nChk
theorem on9 (s : Nd) (x : Sg) (f0 : 0 ≤ x.f) (f1 : x.f < 256) : FnOK Tryz.prog 31 ([.d (ndD s), .d (sgD x)]) ([]) (.d (ndD (nOn s x))) ([]) := by
 refine fnOK_wp (p := condP (s.g == (4 : Int)) ((D.bool (s.g == (4 : Int)) = D.bool true) ∧ (rf (D.bool true)) ∧ (AV.d (ndD s) = AV.d (.agg [D.int .u8 (nOn s x).g, D.int .i64 (nOn s x).p, D.int .i64 (nOn s x).e, D.int .u32 (nOn s x).m, D.int .u32 (nOn s x).h])) ∧ True) (condP (nChk s != (0 : Int)) ((D.bool (s.g == (4 : Int)) = D.bool false) ∧ (FnOK Tryz.prog 39 [AV.d (ndD s)] [] (vI (nChk s)) []) ∧ (D.bool (nChk s != (0 : Int)) = D.bool true) ∧ (AV.d (ndD s) = AV.d (.agg [D.int .u8 (nOn s x).g, D.int .i64 (nOn s x).p, D.int .i64 (nOn s x).e, D.int .u32 (nOn s x).m, D.int .u32 (nOn s x).h])) ∧ True) ((D.bool (s.g == (4 : Int)) = D.bool false) ∧ (FnOK Tryz.prog 39 [AV.d (ndD s)] [] (vI (nChk s)) []) ∧ (D.bool (nChk s != (0 : Int)) = D.bool false) ∧ (FnOK Tryz.prog 30 [AV.d (ndD s), AV.d (sgD x)] [] (vB (nFit s x)) []) ∧ (condP (!nFit s x) ((AV.d (ndD s) = AV.d (.agg [D.int .u8 (nOn s x).g, D.int .i64 (nOn s x).p, D.int .i64 (nOn s x).e, D.int .u32 (nOn s x).m, D.int .u32 (nOn s x).h])) ∧ True) ((FnOK Tryz.prog 57 [AV.d (sgD x), vU 1] [] (vB (hasB x.f (1 : Int))) []) ∧ (FnOK Tryz.prog 57 [AV.d (sgD x), vU 2] [] (vB (hasB x.f (2 : Int))) []) ∧ (condP (s.g == (0 : Int)) ((D.bool (s.g == (0 : Int)) = D.bool true) ∧ (condP (!hasB x.f (1 : Int)) ((AV.d (ndD s) = AV.d (.agg [D.int .u8 (nOn s x).g, D.int .i64 (nOn s x).p, D.int .i64 (nOn s x).e, D.int .u32 (nOn s x).m, D.int .u32 (nOn s x).h])) ∧ True) ((FnOK Tryz.prog 57 [AV.d (sgD x), vU 8] [] (vB (hasB x.f (8 : Int))) []) ∧ (condP (hasB x.f (8 : Int)) ((FnOK Tryz.prog 50 [AV.d (ndD s), vU 4] [] (AV.d (.agg [D.int .u8 (nAt s (4 : Int)).g, D.int .i64 (nAt s (4 : Int)).p, D.int .i64 (nAt s (4 : Int)).e, D.int .u32 (nAt s (4 : Int)).m, D.int .u32 (nAt s (4 : Int)).h])) []) ∧ (AV.d (.agg [D.int .u8 (nAt s (4 : Int)).g, D.int .i64 (nAt s (4 : Int)).p, D.int .i64 (nAt s (4 : Int)).e, D.int .u32 (nAt s (4 : Int)).m, D.int .u32 (nAt s (4 : Int)).h]) = AV.d (.agg [D.int .u8 (nOn s x).g, D.int .i64 (nOn s x).p, D.int .i64 (nOn s x).e, D.int .u32 (nOn s x).m, D.int .u32 (nOn s x).h])) ∧ True) (condP (s.g == (1 : Int)) (condP (hasB x.f (1 : Int)) (condP (hasB x.f (2 : Int)) ((D.bool (hasB x.f (1 : Int)) = D.bool true) ∧ (D.bool (hasB x.f (2 : Int)) = D.bool true) ∧ (FnOK Tryz.prog 58 [vW s.m, vI 1] [] (vW (aAdd s.m (1 : Int))) []) ∧ (condP (x.a == aAdd s.m (1 : Int)) ((FnOK Tryz.prog 59 [AV.d (ndD s), vU 3, AV.d (sgD x)] [] (AV.d (.agg [D.int .u8 (nMet s (3 : Int) x.q).g, D.int .i64 (nMet s (3 : Int) x.q).p, D.int .i64 (nMet s (3 : Int) x.q).e, D.int .u32 (nMet s (3 : Int) x.q).m, D.int .u32 (nMet s (3 : Int) x.q).h])) []) ∧ (AV.d (.agg [D.int .u8 (nMet s (3 : Int) x.q).g, D.int .i64 (nMet s (3 : Int) x.q).p, D.int .i64 (nMet s (3 : Int) x.q).e, D.int .u32 (nMet s (3 : Int) x.q).m, D.int .u32 (nMet s (3 : Int) x.q).h]) = AV.d (.agg [D.int .u8 (nOn s x).g, D.int .i64 (nOn s x).p, D.int .i64 (nOn s x).e, D.int .u32 (nOn s x).m, D.int .u32 (nOn s x).h])) ∧ True) (condP (hasB x.f (1 : Int)) ((D.bool (hasB x.f (1 : Int)) = D.bool true) ∧ (condP (!hasB x.f (2 : Int)) ((FnOK Tryz.prog 59 [AV.d (ndD s), vU 2, AV.d (sgD x)] [] (AV.d (.agg [D.int .u8 (nMet s (2 : Int) x.q).g, D.int .i64 (nMet s (2 : Int) x.q).p, D.int .i64 (nMet s (2 : Int) x.q).e, D.int .u32 (nMet s (2 : Int) x.q).m, D.int .u32 (nMet s (2 : Int) x.q).h])) []) ∧ (AV.d (.agg [D.int .u8 (nMet s (2 : Int) x.q).g, D.int .i64 (nMet s (2 : Int) x.q).p, D.int .i64 (nMet s (2 : Int) x.q).e, D.int .u32 (nMet s (2 : Int) x.q).m, D.int .u32 (nMet s (2 : Int) x.q).h]) = AV.d (.agg [D.int .u8 (nOn s x).g, D.int .i64 (nOn s x).p, D.int .i64 (nOn s x).e, D.int .u32 (nOn s x).m, D.int .u32 (nOn s x).h])) ∧ True) ((AV.d (ndD s) = AV.d (.agg [D.int .u8 (nOn s x).g, D.int .i64 (nOn s x).p, D.int .i64 (nOn s x).e, D.int .u32 (nOn s x).m, D.int .u32 (nOn s x).h])) ∧ True))) ((D.bool (hasB x.f (1 : Int)) = D.bool false) ∧ (AV.d (ndD s) = AV.d (.agg [D.int .u8 (nOn s x).g, D.int .i64 (nOn s x).p, D.int .i64 (nOn s x).e, D.int .u32 (nOn s x).m, D.int .u32 (nOn s x).h])) ∧ True)))) ((D.bool (hasB x.f (1 : Int)) = D.bool true) ∧ (D.bool (hasB x.f (2 : Int)) = D.bool false) ∧ (condP (hasB x.f (1 : Int)) ((D.bool (hasB x.f (1 : Int)) = D.bool true) ∧ (condP (!hasB x.f (2 : Int)) ((FnOK Tryz.prog 59 [AV.d (ndD s), vU 2, AV.d (sgD x)] [] (AV.d (.agg [D.int .u8 (nMet s (2 : Int) x.q).g, D.int .i64 (nMet s (2 : Int) x.q).p, D.int .i64 (nMet s (2 : Int) x.q).e, D.int .u32 (nMet s (2 : Int) x.q).m, D.int .u32 (nMet s (2 : Int) x.q).h])) []) ∧ (AV.d (.agg [D.int .u8 (nMet s (2 : Int) x.q).g, D.int .i64 (nMet s (2 : Int) x.q).p, D.int .i64 (nMet s (2 : Int) x.q).e, D.int .u32 (nMet s (2 : Int) x.q).m, D.int .u32 (nMet s (2 : Int) x.q).h]) = AV.d (.agg [D.int .u8 (nOn s x).g, D.int .i64 (nOn s x).p, D.int .i64 (nOn s x).e, D.int .u32 (nOn s x).m, D.int .u32 (nOn s x).h])) ∧ True) ((AV.d (ndD s) = AV.d (.agg [D.int .u8 (nOn s x).g, D.int .i64 (nOn s x).p, D.int .i64 (nOn s x).e, D.int .u32 (nOn s x).m, D.int .u32 (nOn s x).h])) ∧ True))) ((D.bool (hasB x.f (1 : Int)) = D.bool false) ∧ (AV.d (ndD s) = AV.d (.agg [D.int .u8 (nOn s x).g, D.int .i64 (nOn s x).p, D.int .i64 (nOn s x).e, D.int .u32 (nOn s x).m, D.int .u32 (nOn s x).h])) ∧ True)))) ((D.bool (hasB x.f (1 : Int)) = D.bool false) ∧ (rf (D.bool false)) ∧ (condP (hasB x.f (1 : Int)) ((D.bool (hasB x.f (1 : Int)) = D.bool true) ∧ (condP (!hasB x.f (2 : Int)) ((FnOK Tryz.prog 59 [AV.d (ndD s), vU 2, AV.d (sgD x)] [] (AV.d (.agg [D.int .u8 (nMet s (2 : Int) x.q).g, D.int .i64 (nMet s (2 : Int) x.q).p, D.int .i64 (nMet s (2 : Int) x.q).e, D.int .u32 (nMet s (2 : Int) x.q).m, D.int .u32 (nMet s (2 : Int) x.q).h])) []) ∧ (AV.d (.agg [D.int .u8 (nMet s (2 : Int) x.q).g, D.int .i64 (nMet s (2 : Int) x.q).p, D.int .i64 (nMet s (2 : Int) x.q).e, D.int .u32 (nMet s (2 : Int) x.q).m, D.int .u32 (nMet s (2 : Int) x.q).h]) = AV.d (.agg [D.int .u8 (nOn s x).g, D.int .i64 (nOn s x).p, D.int .i64 (nOn s x).e, D.int .u32 (nOn s x).m, D.int .u32 (nOn s x).h])) ∧ True) ((AV.d (ndD s) = AV.d (.agg [D.int .u8 (nOn s x).g, D.int .i64 (nOn s x).p, D.int .i64 (nOn s x).e, D.int .u32 (nOn s x).m, D.int .u32 (nOn s x).h])) ∧ True))) ((D.bool (hasB x.f (1 : Int)) = D.bool false) ∧ (AV.d (ndD s) = AV.d (.agg [D.int .u8 (nOn s x).g, D.int .i64 (nOn s x).p, D.int .i64 (nOn s x).e, D.int .u32 (nOn s x).m, D.int .u32 (nOn s x).h])) ∧ True)))) (condP (s.g == (0 : Int)) (condP (hasB x.f (1 : Int)) ((D.bool (hasB x.f (1 : Int)) = D.bool true) ∧ (condP (!hasB x.f (2 : Int)) ((FnOK Tryz.prog 59 [AV.d (ndD s), vU 2, AV.d (sgD x)] [] (AV.d (.agg [D.int .u8 (nMet s (2 : Int) x.q).g, D.int .i64 (nMet s (2 : Int) x.q).p, D.int .i64 (nMet s (2 : Int) x.q).e, D.int .u32 (nMet s (2 : Int) x.q).m, D.int .u32 (nMet s (2 : Int) x.q).h])) []) ∧ (AV.d (.agg [D.int .u8 (nMet s (2 : Int) x.q).g, D.int .i64 (nMet s (2 : Int) x.q).p, D.int .i64 (nMet s (2 : Int) x.q).e, D.int .u32 (nMet s (2 : Int) x.q).m, D.int .u32 (nMet s (2 : Int) x.q).h]) = AV.d (.agg [D.int .u8 (nOn s x).g, D.int .i64 (nOn s x).p, D.int .i64 (nOn s x).e, D.int .u32 (nOn s x).m, D.int .u32 (nOn s x).h])) ∧ True) ((AV.d (ndD s) = AV.d (.agg [D.int .u8 (nOn s x).g, D.int .i64 (nOn s x).p, D.int .i64 (nOn s x).e, D.int .u32 (nOn s x).m, D.int .u32 (nOn s x).h])) ∧ True))) ((D.bool (hasB x.f (1 : Int)) = D.bool false) ∧ (AV.d (ndD s) = AV.d (.agg [D.int .u8 (nOn s x).g, D.int .i64 (nOn s x).p, D.int .i64 (nOn s x).e, D.int .u32 (nOn s x).m, D.int .u32 (nOn s x).h])) ∧ True)) (condP (s.g == (2 : Int)) (condP (hasB x.f (1 : Int)) ((D.bool (hasB x.f (1 : Int)) = D.bool true) ∧ (condP (hasB x.f (2 : Int)) (condP (aBehind x.a s.m) (condP (x.q == s.h) ((D.bool (hasB x.f (2 : Int)) = D.bool true) ∧ (FnOK Tryz.prog 60 [vW x.a, vW s.m] [] (vB (aBehind x.a s.m)) []) ∧ (D.bool (aBehind x.a s.m) = D.bool true) ∧ (D.bool (x.q == s.h) = D.bool true) ∧ (FnOK Tryz.prog 50 [AV.d (ndD s), vU 3] [] (AV.d (.agg [D.int .u8 (nAt s (3 : Int)).g, D.int .i64 (nAt s (3 : Int)).p, D.int .i64 (nAt s (3 : Int)).e, D.int .u32 (nAt s (3 : Int)).m, D.int .u32 (nAt s (3 : Int)).h])) []) ∧ (AV.d (.agg [D.int .u8 (nAt s (3 : Int)).g, D.int .i64 (nAt s (3 : Int)).p, D.int .i64 (nAt s (3 : Int)).e, D.int .u32 (nAt s (3 : Int)).m, D.int .u32 (nAt s (3 : Int)).h]) = AV.d (.agg [D.int .u8 (nOn s x).g, D.int .i64 (nOn s x).p, D.int .i64 (nOn s x).e, D.int .u32 (nOn s x).m, D.int .u32 (nOn s x).h])) ∧ True) ((D.bool (hasB x.f (2 : Int)) = D.bool true) ∧ (FnOK Tryz.prog 60 [vW x.a, vW s.m] [] (vB (aBehind x.a s.m)) []) ∧ (D.bool (aBehind x.a s.m) = D.bool true) ∧ (D.bool (x.q == s.h) = D.bool false) ∧ (FnOK Tryz.prog 60 [vW x.q, vW s.h] [] (vB (aBehind x.q s.h)) []) ∧ (condP (aBehind x.q s.h) ((FnOK Tryz.prog 50 [AV.d (ndD s), vU 3] [] (AV.d (.agg [D.int .u8 (nAt s (3 : Int)).g, D.int .i64 (nAt s (3 : Int)).p, D.int .i64 (nAt s (3 : Int)).e, D.int .u32 (nAt s (3 : Int)).m, D.int .u32 (nAt s (3 : Int)).h])) []) ∧ (AV.d (.agg [D.int .u8 (nAt s (3 : Int)).g, D.int .i64 (nAt s (3 : Int)).p, D.int .i64 (nAt s (3 : Int)).e, D.int .u32 (nAt s (3 : Int)).m, D.int .u32 (nAt s (3 : Int)).h]) = AV.d (.agg [D.int .u8 (nOn s x).g, D.int .i64 (nOn s x).p, D.int .i64 (nOn s x).e, D.int .u32 (nOn s x).m, D.int .u32 (nOn s x).h])) ∧ True) ((AV.d (ndD s) = AV.d (.agg [D.int .u8 (nOn s x).g, D.int .i64 (nOn s x).p, D.int .i64 (nOn s x).e, D.int .u32 (nOn s x).m, D.int .u32 (nOn s x).h])) ∧ True)))) ((D.bool (hasB x.f (2 : Int)) = D.bool true) ∧ (FnOK Tryz.prog 60 [vW x.a, vW s.m] [] (vB (aBehind x.a s.m)) []) ∧ (D.bool (aBehind x.a s.m) = D.bool false) ∧ (AV.d (ndD s) = AV.d (.agg [D.int .u8 (nOn s x).g, D.int .i64 (nOn s x).p, D.int .i64 (nOn s x).e, D.int .u32 (nOn s x).m, D.int .u32 (nOn s x).h])) ∧ True)) ((D.bool (hasB x.f (2 : Int)) = D.bool false) ∧ (rf (D.bool false)) ∧ (AV.d (ndD s) = AV.d (.agg [D.int .u8 (nOn s x).g, D.int .i64 (nOn s x).p, D.int .i64 (nOn s x).e, D.int .u32 (nOn s x).m, D.int .u32 (nOn s x).h])) ∧ True))) ((D.bool (hasB x.f (1 : Int)) = D.bool false) ∧ (condP (hasB x.f (2 : Int)) (condP (aBehind x.a s.m) ((D.bool (hasB x.f (2 : Int)) = D.bool true) ∧ (FnOK Tryz.prog 60 [vW x.a, vW s.m] [] (vB (aBehind x.a s.m)) []) ∧ (D.bool (aBehind x.a s.m) = D.bool true) ∧ (rf (D.bool false)) ∧ (FnOK Tryz.prog 60 [vW x.q, vW s.h] [] (vB (aBehind x.q s.h)) []) ∧ (condP (aBehind x.q s.h) ((FnOK Tryz.prog 50 [AV.d (ndD s), vU 3] [] (AV.d (.agg [D.int .u8 (nAt s (3 : Int)).g, D.int .i64 (nAt s (3 : Int)).p, D.int .i64 (nAt s (3 : Int)).e, D.int .u32 (nAt s (3 : Int)).m, D.int .u32 (nAt s (3 : Int)).h])) []) ∧ (AV.d (.agg [D.int .u8 (nAt s (3 : Int)).g, D.int .i64 (nAt s (3 : Int)).p, D.int .i64 (nAt s (3 : Int)).e, D.int .u32 (nAt s (3 : Int)).m, D.int .u32 (nAt s (3 : Int)).h]) = AV.d (.agg [D.int .u8 (nOn s x).g, D.int .i64 (nOn s x).p, D.int .i64 (nOn s x).e, D.int .u32 (nOn s x).m, D.int .u32 (nOn s x).h])) ∧ True) ((AV.d (ndD s) = AV.d (.agg [D.int .u8 (nOn s x).g, D.int .i64 (nOn s x).p, D.int .i64 (nOn s x).e, D.int .u32 (nOn s x).m, D.int .u32 (nOn s x).h])) ∧ True))) ((D.bool (hasB x.f (2 : Int)) = D.bool true) ∧ (FnOK Tryz.prog 60 [vW x.a, vW s.m] [] (vB (aBehind x.a s.m)) []) ∧ (D.bool (aBehind x.a s.m) = D.bool false) ∧ (AV.d (ndD s) = AV.d (.agg [D.int .u8 (nOn s x).g, D.int .i64 (nOn s x).p, D.int .i64 (nOn s x).e, D.int .u32 (nOn s x).m, D.int .u32 (nOn s x).h])) ∧ True)) ((D.bool (hasB x.f (2 : Int)) = D.bool false) ∧ (rf (D.bool false)) ∧ (AV.d (ndD s) = AV.d (.agg [D.int .u8 (nOn s x).g, D.int .i64 (nOn s x).p, D.int .i64 (nOn s x).e, D.int .u32 (nOn s x).m, D.int .u32 (nOn s x).h])) ∧ True)))) ((AV.d (ndD s) = AV.d (.agg [D.int .u8 (nOn s x).g, D.int .i64 (nOn s x).p, D.int .i64 (nOn s x).e, D.int .u32 (nOn s x).m, D.int .u32 (nOn s x).h])) ∧ True)))))))) ((D.bool (s.g == (0 : Int)) = D.bool false) ∧ (FnOK Tryz.prog 57 [AV.d (sgD x), vU 8] [] (vB (hasB x.f (8 : Int))) []) ∧ (condP (hasB x.f (8 : Int)) ((FnOK Tryz.prog 50 [AV.d (ndD s), vU 4] [] (AV.d (.agg [D.int .u8 (nAt s (4 : Int)).g, D.int .i64 (nAt s (4 : Int)).p, D.int .i64 (nAt s (4 : Int)).e, D.int .u32 (nAt s (4 : Int)).m, D.int .u32 (nAt s (4 : Int)).h])) []) ∧ (AV.d (.agg [D.int .u8 (nAt s (4 : Int)).g, D.int .i64 (nAt s (4 : Int)).p, D.int .i64 (nAt s (4 : Int)).e, D.int .u32 (nAt s (4 : Int)).m, D.int .u32 (nAt s (4 : Int)).h]) = AV.d (.agg [D.int .u8 (nOn s x).g, D.int .i64 (nOn s x).p, D.int .i64 (nOn s x).e, D.int .u32 (nOn s x).m, D.int .u32 (nOn s x).h])) ∧ True) (condP (s.g == (1 : Int)) (condP (hasB x.f (1 : Int)) (condP (hasB x.f (2 : Int)) ((D.bool (hasB x.f (1 : Int)) = D.bool true) ∧ (D.bool (hasB x.f (2 : Int)) = D.bool true) ∧ (FnOK Tryz.prog 58 [vW s.m, vI 1] [] (vW (aAdd s.m (1 : Int))) []) ∧ (condP (x.a == aAdd s.m (1 : Int)) ((FnOK Tryz.prog 59 [AV.d (ndD s), vU 3, AV.d (sgD x)] [] (AV.d (.agg [D.int .u8 (nMet s (3 : Int) x.q).g, D.int .i64 (nMet s (3 : Int) x.q).p, D.int .i64 (nMet s (3 : Int) x.q).e, D.int .u32 (nMet s (3 : Int) x.q).m, D.int .u32 (nMet s (3 : Int) x.q).h])) []) ∧ (AV.d (.agg [D.int .u8 (nMet s (3 : Int) x.q).g, D.int .i64 (nMet s (3 : Int) x.q).p, D.int .i64 (nMet s (3 : Int) x.q).e, D.int .u32 (nMet s (3 : Int) x.q).m, D.int .u32 (nMet s (3 : Int) x.q).h]) = AV.d (.agg [D.int .u8 (nOn s x).g, D.int .i64 (nOn s x).p, D.int .i64 (nOn s x).e, D.int .u32 (nOn s x).m, D.int .u32 (nOn s x).h])) ∧ True) (condP (hasB x.f (1 : Int)) ((D.bool (hasB x.f (1 : Int)) = D.bool true) ∧ (condP (!hasB x.f (2 : Int)) ((FnOK Tryz.prog 59 [AV.d (ndD s), vU 2, AV.d (sgD x)] [] (AV.d (.agg [D.int .u8 (nMet s (2 : Int) x.q).g, D.int .i64 (nMet s (2 : Int) x.q).p, D.int .i64 (nMet s (2 : Int) x.q).e, D.int .u32 (nMet s (2 : Int) x.q).m, D.int .u32 (nMet s (2 : Int) x.q).h])) []) ∧ (AV.d (.agg [D.int .u8 (nMet s (2 : Int) x.q).g, D.int .i64 (nMet s (2 : Int) x.q).p, D.int .i64 (nMet s (2 : Int) x.q).e, D.int .u32 (nMet s (2 : Int) x.q).m, D.int .u32 (nMet s (2 : Int) x.q).h]) = AV.d (.agg [D.int .u8 (nOn s x).g, D.int .i64 (nOn s x).p, D.int .i64 (nOn s x).e, D.int .u32 (nOn s x).m, D.int .u32 (nOn s x).h])) ∧ True) ((AV.d (ndD s) = AV.d (.agg [D.int .u8 (nOn s x).g, D.int .i64 (nOn s x).p, D.int .i64 (nOn s x).e, D.int .u32 (nOn s x).m, D.int .u32 (nOn s x).h])) ∧ True))) ((D.bool (hasB x.f (1 : Int)) = D.bool false) ∧ (AV.d (ndD s) = AV.d (.agg [D.int .u8 (nOn s x).g, D.int .i64 (nOn s x).p, D.int .i64 (nOn s x).e, D.int .u32 (nOn s x).m, D.int .u32 (nOn s x).h])) ∧ True)))) ((D.bool (hasB x.f (1 : Int)) = D.bool true) ∧ (D.bool (hasB x.f (2 : Int)) = D.bool false) ∧ (condP (hasB x.f (1 : Int)) ((D.bool (hasB x.f (1 : Int)) = D.bool true) ∧ (condP (!hasB x.f (2 : Int)) ((FnOK Tryz.prog 59 [AV.d (ndD s), vU 2, AV.d (sgD x)] [] (AV.d (.agg [D.int .u8 (nMet s (2 : Int) x.q).g, D.int .i64 (nMet s (2 : Int) x.q).p, D.int .i64 (nMet s (2 : Int) x.q).e, D.int .u32 (nMet s (2 : Int) x.q).m, D.int .u32 (nMet s (2 : Int) x.q).h])) []) ∧ (AV.d (.agg [D.int .u8 (nMet s (2 : Int) x.q).g, D.int .i64 (nMet s (2 : Int) x.q).p, D.int .i64 (nMet s (2 : Int) x.q).e, D.int .u32 (nMet s (2 : Int) x.q).m, D.int .u32 (nMet s (2 : Int) x.q).h]) = AV.d (.agg [D.int .u8 (nOn s x).g, D.int .i64 (nOn s x).p, D.int .i64 (nOn s x).e, D.int .u32 (nOn s x).m, D.int .u32 (nOn s x).h])) ∧ True) ((AV.d (ndD s) = AV.d (.agg [D.int .u8 (nOn s x).g, D.int .i64 (nOn s x).p, D.int .i64 (nOn s x).e, D.int .u32 (nOn s x).m, D.int .u32 (nOn s x).h])) ∧ True))) ((D.bool (hasB x.f (1 : Int)) = D.bool false) ∧ (AV.d (ndD s) = AV.d (.agg [D.int .u8 (nOn s x).g, D.int .i64 (nOn s x).p, D.int .i64 (nOn s x).e, D.int .u32 (nOn s x).m, D.int .u32 (nOn s x).h])) ∧ True)))) ((D.bool (hasB x.f (1 : Int)) = D.bool false) ∧ (rf (D.bool false)) ∧ (condP (hasB x.f (1 : Int)) ((D.bool (hasB x.f (1 : Int)) = D.bool true) ∧ (condP (!hasB x.f (2 : Int)) ((FnOK Tryz.prog 59 [AV.d (ndD s), vU 2, AV.d (sgD x)] [] (AV.d (.agg [D.int .u8 (nMet s (2 : Int) x.q).g, D.int .i64 (nMet s (2 : Int) x.q).p, D.int .i64 (nMet s (2 : Int) x.q).e, D.int .u32 (nMet s (2 : Int) x.q).m, D.int .u32 (nMet s (2 : Int) x.q).h])) []) ∧ (AV.d (.agg [D.int .u8 (nMet s (2 : Int) x.q).g, D.int .i64 (nMet s (2 : Int) x.q).p, D.int .i64 (nMet s (2 : Int) x.q).e, D.int .u32 (nMet s (2 : Int) x.q).m, D.int .u32 (nMet s (2 : Int) x.q).h]) = AV.d (.agg [D.int .u8 (nOn s x).g, D.int .i64 (nOn s x).p, D.int .i64 (nOn s x).e, D.int .u32 (nOn s x).m, D.int .u32 (nOn s x).h])) ∧ True) ((AV.d (ndD s) = AV.d (.agg [D.int .u8 (nOn s x).g, D.int .i64 (nOn s x).p, D.int .i64 (nOn s x).e, D.int .u32 (nOn s x).m, D.int .u32 (nOn s x).h])) ∧ True))) ((D.bool (hasB x.f (1 : Int)) = D.bool false) ∧ (AV.d (ndD s) = AV.d (.agg [D.int .u8 (nOn s x).g, D.int .i64 (nOn s x).p, D.int .i64 (nOn s x).e, D.int .u32 (nOn s x).m, D.int .u32 (nOn s x).h])) ∧ True)))) (condP (s.g == (0 : Int)) (condP (hasB x.f (1 : Int)) ((D.bool (hasB x.f (1 : Int)) = D.bool true) ∧ (condP (!hasB x.f (2 : Int)) ((FnOK Tryz.prog 59 [AV.d (ndD s), vU 2, AV.d (sgD x)] [] (AV.d (.agg [D.int .u8 (nMet s (2 : Int) x.q).g, D.int .i64 (nMet s (2 : Int) x.q).p, D.int .i64 (nMet s (2 : Int) x.q).e, D.int .u32 (nMet s (2 : Int) x.q).m, D.int .u32 (nMet s (2 : Int) x.q).h])) []) ∧ (AV.d (.agg [D.int .u8 (nMet s (2 : Int) x.q).g, D.int .i64 (nMet s (2 : Int) x.q).p, D.int .i64 (nMet s (2 : Int) x.q).e, D.int .u32 (nMet s (2 : Int) x.q).m, D.int .u32 (nMet s (2 : Int) x.q).h]) = AV.d (.agg [D.int .u8 (nOn s x).g, D.int .i64 (nOn s x).p, D.int .i64 (nOn s x).e, D.int .u32 (nOn s x).m, D.int .u32 (nOn s x).h])) ∧ True) ((AV.d (ndD s) = AV.d (.agg [D.int .u8 (nOn s x).g, D.int .i64 (nOn s x).p, D.int .i64 (nOn s x).e, D.int .u32 (nOn s x).m, D.int .u32 (nOn s x).h])) ∧ True))) ((D.bool (hasB x.f (1 : Int)) = D.bool false) ∧ (AV.d (ndD s) = AV.d (.agg [D.int .u8 (nOn s x).g, D.int .i64 (nOn s x).p, D.int .i64 (nOn s x).e, D.int .u32 (nOn s x).m, D.int .u32 (nOn s x).h])) ∧ True)) (condP (s.g == (2 : Int)) (condP (hasB x.f (1 : Int)) ((D.bool (hasB x.f (1 : Int)) = D.bool true) ∧ (condP (hasB x.f (2 : Int)) (condP (aBehind x.a s.m) (condP (x.q == s.h) ((D.bool (hasB x.f (2 : Int)) = D.bool true) ∧ (FnOK Tryz.prog 60 [vW x.a, vW s.m] [] (vB (aBehind x.a s.m)) []) ∧ (D.bool (aBehind x.a s.m) = D.bool true) ∧ (D.bool (x.q == s.h) = D.bool true) ∧ (FnOK Tryz.prog 50 [AV.d (ndD s), vU 3] [] (AV.d (.agg [D.int .u8 (nAt s (3 : Int)).g, D.int .i64 (nAt s (3 : Int)).p, D.int .i64 (nAt s (3 : Int)).e, D.int .u32 (nAt s (3 : Int)).m, D.int .u32 (nAt s (3 : Int)).h])) []) ∧ (AV.d (.agg [D.int .u8 (nAt s (3 : Int)).g, D.int .i64 (nAt s (3 : Int)).p, D.int .i64 (nAt s (3 : Int)).e, D.int .u32 (nAt s (3 : Int)).m, D.int .u32 (nAt s (3 : Int)).h]) = AV.d (.agg [D.int .u8 (nOn s x).g, D.int .i64 (nOn s x).p, D.int .i64 (nOn s x).e, D.int .u32 (nOn s x).m, D.int .u32 (nOn s x).h])) ∧ True) ((D.bool (hasB x.f (2 : Int)) = D.bool true) ∧ (FnOK Tryz.prog 60 [vW x.a, vW s.m] [] (vB (aBehind x.a s.m)) []) ∧ (D.bool (aBehind x.a s.m) = D.bool true) ∧ (D.bool (x.q == s.h) = D.bool false) ∧ (FnOK Tryz.prog 60 [vW x.q, vW s.h] [] (vB (aBehind x.q s.h)) []) ∧ (condP (aBehind x.q s.h) ((FnOK Tryz.prog 50 [AV.d (ndD s), vU 3] [] (AV.d (.agg [D.int .u8 (nAt s (3 : Int)).g, D.int .i64 (nAt s (3 : Int)).p, D.int .i64 (nAt s (3 : Int)).e, D.int .u32 (nAt s (3 : Int)).m, D.int .u32 (nAt s (3 : Int)).h])) []) ∧ (AV.d (.agg [D.int .u8 (nAt s (3 : Int)).g, D.int .i64 (nAt s (3 : Int)).p, D.int .i64 (nAt s (3 : Int)).e, D.int .u32 (nAt s (3 : Int)).m, D.int .u32 (nAt s (3 : Int)).h]) = AV.d (.agg [D.int .u8 (nOn s x).g, D.int .i64 (nOn s x).p, D.int .i64 (nOn s x).e, D.int .u32 (nOn s x).m, D.int .u32 (nOn s x).h])) ∧ True) ((AV.d (ndD s) = AV.d (.agg [D.int .u8 (nOn s x).g, D.int .i64 (nOn s x).p, D.int .i64 (nOn s x).e, D.int .u32 (nOn s x).m, D.int .u32 (nOn s x).h])) ∧ True)))) ((D.bool (hasB x.f (2 : Int)) = D.bool true) ∧ (FnOK Tryz.prog 60 [vW x.a, vW s.m] [] (vB (aBehind x.a s.m)) []) ∧ (D.bool (aBehind x.a s.m) = D.bool false) ∧ (AV.d (ndD s) = AV.d (.agg [D.int .u8 (nOn s x).g, D.int .i64 (nOn s x).p, D.int .i64 (nOn s x).e, D.int .u32 (nOn s x).m, D.int .u32 (nOn s x).h])) ∧ True)) ((D.bool (hasB x.f (2 : Int)) = D.bool false) ∧ (rf (D.bool false)) ∧ (AV.d (ndD s) = AV.d (.agg [D.int .u8 (nOn s x).g, D.int .i64 (nOn s x).p, D.int .i64 (nOn s x).e, D.int .u32 (nOn s x).m, D.int .u32 (nOn s x).h])) ∧ True))) ((D.bool (hasB x.f (1 : Int)) = D.bool false) ∧ (condP (hasB x.f (2 : Int)) (condP (aBehind x.a s.m) ((D.bool (hasB x.f (2 : Int)) = D.bool true) ∧ (FnOK Tryz.prog 60 [vW x.a, vW s.m] [] (vB (aBehind x.a s.m)) []) ∧ (D.bool (aBehind x.a s.m) = D.bool true) ∧ (rf (D.bool false)) ∧ (FnOK Tryz.prog 60 [vW x.q, vW s.h] [] (vB (aBehind x.q s.h)) []) ∧ (condP (aBehind x.q s.h) ((FnOK Tryz.prog 50 [AV.d (ndD s), vU 3] [] (AV.d (.agg [D.int .u8 (nAt s (3 : Int)).g, D.int .i64 (nAt s (3 : Int)).p, D.int .i64 (nAt s (3 : Int)).e, D.int .u32 (nAt s (3 : Int)).m, D.int .u32 (nAt s (3 : Int)).h])) []) ∧ (AV.d (.agg [D.int .u8 (nAt s (3 : Int)).g, D.int .i64 (nAt s (3 : Int)).p, D.int .i64 (nAt s (3 : Int)).e, D.int .u32 (nAt s (3 : Int)).m, D.int .u32 (nAt s (3 : Int)).h]) = AV.d (.agg [D.int .u8 (nOn s x).g, D.int .i64 (nOn s x).p, D.int .i64 (nOn s x).e, D.int .u32 (nOn s x).m, D.int .u32 (nOn s x).h])) ∧ True) ((AV.d (ndD s) = AV.d (.agg [D.int .u8 (nOn s x).g, D.int .i64 (nOn s x).p, D.int .i64 (nOn s x).e, D.int .u32 (nOn s x).m, D.int .u32 (nOn s x).h])) ∧ True))) ((D.bool (hasB x.f (2 : Int)) = D.bool true) ∧ (FnOK Tryz.prog 60 [vW x.a, vW s.m] [] (vB (aBehind x.a s.m)) []) ∧ (D.bool (aBehind x.a s.m) = D.bool false) ∧ (AV.d (ndD s) = AV.d (.agg [D.int .u8 (nOn s x).g, D.int .i64 (nOn s x).p, D.int .i64 (nOn s x).e, D.int .u32 (nOn s x).m, D.int .u32 (nOn s x).h])) ∧ True)) ((D.bool (hasB x.f (2 : Int)) = D.bool false) ∧ (rf (D.bool false)) ∧ (AV.d (ndD s) = AV.d (.agg [D.int .u8 (nOn s x).g, D.int .i64 (nOn s x).p, D.int .i64 (nOn s x).e, D.int .u32 (nOn s x).m, D.int .u32 (nOn s x).h])) ∧ True)))) ((AV.d (ndD s) = AV.d (.agg [D.int .u8 (nOn s x).g, D.int .i64 (nOn s x).p, D.int .i64 (nOn s x).e, D.int .u32 (nOn s x).m, D.int .u32 (nOn s x).h])) ∧ True)))))))))))) (h := {G := G2}) (subs := []) (ws := []) (ρ := []) (by kernel_rfl) ?_
 have a1 := chk14 s
 have a2 := fit15 s x f0 f1
 repeat' (with_reducible first|exact ⟨⟩|apply And.intro|(first|apply zA|apply zB|apply zC|apply zD|apply zE|apply zF|apply zG)<;>intro)
 all_goals first | exact a1 | exact a2 | exact has28 _ _ | exact at29 _ _ | exact add30 _ _ | exact met31 _ _ _ | exact behind32 _ _ | rfl | (simp_all; done) | skip
 all_goals (try (generalize hv : nOn s x = v; unfold nOn at hv; (repeat' split at hv) <;> first | (subst hv; rfl) | (exfalso; simp_all; done) | (subst hv; rw [nAt_yes (by simp_all)]; done) | (subst hv; rw [nAt_yes (by simp_all)]; rfl) | skip))
theorem out13 (s : Nd) : FnOK Tryz.prog 53 ([.d (ndD s)]) ([]) (.tup [.d (sgD (nOut s)), .d (.bool (nSays s))]) ([]) := by
 refine fnOK_wp (p := (FnOK Tryz.prog 39 [AV.d (ndD s)] [] (vI (nChk s)) []) ∧ (condP (nChk s == (0 : Int)) (condP (s.g == (1 : Int)) ((AV.tup [AV.d (.agg [D.int .u8 1, D.int .i64 s.p, D.int .i64 s.e, D.int .u32 s.m, D.int .u32 0, D.int .i64 65535, D.sl [], D.str []]), vB true] = AV.tup [AV.d (.agg [D.int .u8 (nOut s).f, D.int .i64 (nOut s).p, D.int .i64 (nOut s).e, D.int .u32 (nOut s).q, D.int .u32 (nOut s).a, D.int .i64 (nOut s).w, D.sl (nOut s).k, D.str (nOut s).t]), vB (nSays s)]) ∧ True) (condP (s.g == (2 : Int)) ((FnOK Tryz.prog 58 [vW s.h, vI 1] [] (vW (aAdd s.h (1 : Int))) []) ∧ (AV.tup [AV.d (.agg [D.int .u8 3, D.int .i64 s.p, D.int .i64 s.e, D.int .u32 s.m, D.int .u32 (aAdd s.h (1 : Int)), D.int .i64 65535, D.sl [], D.str []]), vB true] = AV.tup [AV.d (.agg [D.int .u8 (nOut s).f, D.int .i64 (nOut s).p, D.int .i64 (nOut s).e, D.int .u32 (nOut s).q, D.int .u32 (nOut s).a, D.int .i64 (nOut s).w, D.sl (nOut s).k, D.str (nOut s).t]), vB (nSays s)]) ∧ True) ((AV.tup [AV.d (.agg [D.int .u8 0, D.int .i64 0, D.int .i64 0, D.int .u32 0, D.int .u32 0, D.int .i64 0, D.sl [], D.str []]), vB false] = AV.tup [AV.d (.agg [D.int .u8 (nOut s).f, D.int .i64 (nOut s).p, D.int .i64 (nOut s).e, D.int .u32 (nOut s).q, D.int .u32 (nOut s).a, D.int .i64 (nOut s).w, D.sl (nOut s).k, D.str (nOut s).t]), vB (nSays s)]) ∧ True))) ((AV.tup [AV.d (.agg [D.int .u8 0, D.int .i64 0, D.int .i64 0, D.int .u32 0, D.int .u32 0, D.int .i64 0, D.sl [], D.str []]), vB false] = AV.tup [AV.d (.agg [D.int .u8 (nOut s).f, D.int .i64 (nOut s).p, D.int .i64 (nOut s).e, D.int .u32 (nOut s).q, D.int .u32 (nOut s).a, D.int .i64 (nOut s).w, D.sl (nOut s).k, D.str (nOut s).t]), vB (nSays s)]) ∧ True))) (h := {G := G2}) (subs := []) (ws := []) (ρ := []) (by kernel_rfl) ?_
 repeat' (with_reducible first|exact ⟨⟩|apply And.intro|(first|apply zA|apply zB|apply zC|apply zD|apply zE|apply zF|apply zG)<;>intro)
 all_goals first | exact chk14 _ | exact add30 _ _ | skip
 all_goals (try (unfold nOut nSays; simp_all [sgZ]; done))
end Go.Proofs.YtalpfhpeaaocmaaGreat.C13
end
section
namespace Go.Proofs.YtalpfhpeaaocmaaGreat.C06
open Sx Go.RowKit
abbrev Iv := Int × Int
section
variable {p a b : Prop} {x y : Int} {c : Bool}
end
def ivD (x : Iv) : D := .agg [.int .i64 x.1, .int .i64 x.2]
theorem ivD_ne {x y : Iv} (h : x ≠ y) : (x.1 == y.1 && (x.2 == y.2 && true)) = false := by
 cases hq : (x.1 == y.1 && (x.2 == y.2 && true))
 ·rfl
 ·simp at hq
  exact absurd (Prod.ext hq.1 hq.2) h
def endB (n : Int) : Bool := decide (n ≥ 0) && decide (n ≤ 4611686018427387903)
def mayB (x : Iv) : Bool := endB x.1 && endB x.2
def noneB (x : Iv) : Bool := decide (x.2 ≤ x.1)
/-- Whether one is not behind the one before. -/
def ordB : List Iv → Bool
 | x :: y :: r => decide (y.1 ≤ x.2) || ordB (y :: r)
 | _ => false
def iChk (s : List Iv) : Int := if s.any (fun x => !mayB x) = true then 8 else if s.any noneB = true then 4 else if ordB s = true then 10 else 0
theorem mayB_iff {x : Iv} : mayB x = true ↔ (0 ≤ x.1 ∧ x.1 ≤ 4611686018427387903) ∧ 0 ≤ x.2 ∧ x.2 ≤ 4611686018427387903 := by
 unfold mayB endB
 simp only [Bool.and_eq_true, decide_eq_true_eq]
/-- In order, from `e` on. -/
def Srt : Int → List Iv → Prop
 | _, [] => True
 | e, x :: l => (e < x.1 ∧ x.1 < x.2) ∧ Srt x.2 l
structure Ok (s : List Iv) : Prop where
 srt : Srt (-1) s
 up : ∀ x ∈ s, x.2 ≤ 4611686018427387903
theorem srt_up {e e' : Int} (h : e' ≤ e) : ∀ {l : List Iv}, Srt e l → Srt e' l
 | [], _ => trivial
 | x :: l, g => ⟨⟨by have := g.1.1; omega, g.1.2⟩, g.2⟩
theorem srt_mem : ∀ {l : List Iv} {e : Int}, Srt e l → ∀ x ∈ l, e < x.1 ∧ x.1 < x.2
 | [], e, h, x, hx => by cases hx
 | y :: l, e, h, x, hx => by
  rcases List.mem_cons.1 hx with rfl | hx
  ·exact h.1
  ·have := srt_mem h.2 x hx
   have := h.1
   omega
theorem ordB_iff : ∀ {l : List Iv}, (∀ x ∈ l, x.1 < x.2) → (ordB l = false ↔ ∀ e, (∀ x, l.head? = some x → e < x.1) → Srt e l)
 | [], _ => by simp [ordB, Srt]
 | [x], h => by
  have := h x (by simp)
  simp only [ordB, Srt, true_iff]
  exact fun e he => ⟨⟨he x rfl, this⟩, trivial⟩
 | x :: y :: r, h => by
  have hx := h x (by simp)
  have ih := ordB_iff (l := y :: r) (fun z hz => h z (List.mem_cons_of_mem _ hz))
  show (decide (y.1 ≤ x.2) || ordB (y :: r)) = false ↔ _
  rw [Bool.or_eq_false_iff, decide_eq_false_iff_not, ih]
  constructor
  ·rintro ⟨h1, h2⟩ e he
   exact ⟨⟨he x rfl, hx⟩, h2 x.2 fun z hz => by simp at hz; subst hz; omega⟩
  ·intro h1
   have h2 := h1 (x.1 - 1) fun z hz => by simp at hz; subst hz; omega
   have h3 : x.2 < y.1 := h2.2.1.1
   exact ⟨by omega, fun e he => srt_up (by have := he y rfl; omega) (show Srt (y.1 - 1) (y :: r) from ⟨⟨by omega, h2.2.1.2⟩, h2.2.2⟩)⟩
theorem iChk_iff {s : List Iv} : iChk s = 0 ↔ Ok s := by
 unfold iChk
 constructor
 ·intro h
  by_cases h1 : s.any (fun x => !mayB x) = true
  ·rw [if_pos h1] at h; cases h
  ·rw [if_neg h1] at h
   by_cases h2 : s.any noneB = true
   ·rw [if_pos h2] at h; cases h
   ·rw [if_neg h2] at h
    by_cases h3 : ordB s = true
    ·rw [if_pos h3] at h; cases h
    ·have hm : ∀ x ∈ s, mayB x = true := fun x hx => by
      cases q : mayB x
      ·exact absurd (List.any_eq_true.2 ⟨x, hx, by rw [q]; rfl⟩) h1
      ·rfl
     have hn : ∀ x ∈ s, x.1 < x.2 := fun x hx => by
      by_cases q : x.2 ≤ x.1
      ·exact absurd (List.any_eq_true.2 ⟨x, hx, decide_eq_true q⟩) h2
      ·omega
     refine ⟨(ordB_iff hn).1 (Bool.eq_false_iff.2 h3) _ fun x hx => ?_, fun x hx => (mayB_iff.1 (hm x hx)).2.2⟩
     have := (mayB_iff.1 (hm x (List.mem_of_mem_head? hx))).1.1
     omega
 ·intro h
  have hm := srt_mem h.srt
  have h1 : s.any (fun x => !mayB x) = false := by
   rw [List.any_eq_false]
   intro x hx
   have a := hm x hx
   have b := h.up x hx
   rw [mayB_iff.2 ⟨⟨by omega, by omega⟩, by omega, b⟩]
   simp
  have h2 : s.any noneB = false := by
   rw [List.any_eq_false]
   intro x hx
   have a := hm x hx
   unfold noneB
   simp only [decide_eq_true_eq]
   omega
  have h3 : ordB s = false := by
   cases s with
   | nil => rfl
   | cons x r =>
    refine (ordB_iff (fun y hy => (hm y hy).2)).2 fun e he => ?_
    exact ⟨⟨he x rfl, h.srt.1.2⟩, h.srt.2⟩
  rw [h1, h2, h3]
  rfl
/-- Whether a number is in a set. -/
def has (s : List Iv) (n : Int) : Bool := s.any (fun x => decide (x.1 ≤ n ∧ n < x.2))
theorem has_cons (x : Iv) (l : List Iv) (n : Int) : has (x :: l) n = (decide (x.1 ≤ n ∧ n < x.2) || has l n) := rfl
theorem has_append (l m : List Iv) (n : Int) : has (l ++ m) n = (has l n || has m n) := by unfold has; rw [List.any_append]
theorem has_iff {s : List Iv} {n : Int} : has s n = true ↔ ∃ x ∈ s, x.1 ≤ n ∧ n < x.2 := by
 unfold has
 rw [List.any_eq_true]
 constructor
 ·rintro ⟨x, h1, h2⟩; exact ⟨x, h1, of_decide_eq_true h2⟩
 ·rintro ⟨x, h1, h2⟩; exact ⟨x, h1, decide_eq_true h2⟩
theorem srt_low {l : List Iv} {e : Int} (h : Srt e l) {n : Int} (hn : n ≤ e) : has l n = false := by
 cases q : has l n
 ·rfl
 ·obtain ⟨x, hx, h1⟩ := has_iff.1 q
  have := srt_mem h x hx
  omega
/-- Sets that have the same numbers are one. -/
theorem srt_inj : ∀ {l m : List Iv} {e : Int}, Srt e l → Srt e m → (∀ n, has l n = has m n) → l = m
 | [], [], e, _, _, _ => rfl
 | [], y :: m, e, _, hm, h => by
  have := h y.1
  have h2 : has (y :: m) y.1 = true := has_iff.2 ⟨y, by simp, by have := hm.1; omega⟩
  rw [h2] at this; cases this
 | y :: m, [], e, hm, _, h => by
  have := h y.1
  have h2 : has (y :: m) y.1 = true := has_iff.2 ⟨y, by simp, by have := hm.1; omega⟩
  rw [h2] at this; cases this
 | x :: l, y :: m, e, hl, hm, h => by
  have hx := hl.1
  have hy := hm.1
  have e1 : x.1 = y.1 := by
   rcases Int.lt_trichotomy x.1 y.1 with g | g | g
   ·have h1 := h x.1
    have h2 : has (x :: l) x.1 = true := has_iff.2 ⟨x, by simp, by omega⟩
    have h3 : has (y :: m) x.1 = false := srt_low (e := y.1 - 1) (l := y :: m) (And.intro ⟨by omega, hy.2⟩ hm.2) (by omega)
    rw [h2, h3] at h1; cases h1
   ·exact g
   ·have h1 := h y.1
    have h2 : has (y :: m) y.1 = true := has_iff.2 ⟨y, by simp, by omega⟩
    have h3 : has (x :: l) y.1 = false := srt_low (e := x.1 - 1) (l := x :: l) (And.intro ⟨by omega, hx.2⟩ hl.2) (by omega)
    rw [h2, h3] at h1; cases h1
  have e2 : x.2 = y.2 := by
   rcases Int.lt_trichotomy x.2 y.2 with g | g | g
   ·have h1 := h x.2
    rw [has_cons, has_cons, srt_low hl.2 (Int.le_refl _), decide_eq_false (by omega), decide_eq_true (by omega)] at h1
    simp at h1
   ·exact g
   ·have h1 := h y.2
    rw [has_cons, has_cons, srt_low hm.2 (Int.le_refl _), decide_eq_true (by omega), decide_eq_false (by omega)] at h1
    simp at h1
  have exy : x = y := Prod.ext e1 e2
  subst exy
  congr 1
  refine srt_inj hl.2 hm.2 fun n => ?_
  by_cases hn : n ≤ x.2
  ·rw [srt_low hl.2 hn, srt_low hm.2 hn]
  ·have h1 := h n
   rw [has_cons, has_cons, decide_eq_false (by omega), Bool.false_or, Bool.false_or] at h1
   exact h1
theorem ok_inj {s t : List Iv} (hs : Ok s) (ht : Ok t) (h : ∀ n, has s n = has t n) : s = t := srt_inj hs.srt ht.srt h
end Go.Proofs.YtalpfhpeaaocmaaGreat.C06
end
section
namespace Go.Proofs.YtalpfhpeaaocmaaGreat.C06
open Sx Go.RowKit
def gAns (a : AV) : List D → Option (AV × List Ob) := fun _ => some (a, [])
def gId : List D → Option (AV × List Ob) := fun | [d] => some (.d d, []) | _ => none
theorem ivD_sz (l : List Iv) : ∀ e ∈ l.map ivD, e.cells.length = 2 := by
 intro e he
 obtain ⟨x, -, rfl⟩ := List.mem_map.1 he
 rfl
theorem ivD_cloneP (l : List Iv) (hl : l.length < 1073741824) (hne : l.map ivD ≠ []) : FnOK Tryz.prog 76 ([.d (.sl (l.map ivD))]) ([]) (.own 0 2) ([.row 2 (l.map ivD)]) := by
 refine fnOK_wp (p := (rf (D.bool false)) ∧ (List.map ivD l ≠ []) ∧ ((0 + (List.map ivD l).length) * 16 ≤ 140737488355328) ∧ (∀ (e : D), e ∈ List.map ivD l → e.cells.length = 2) ∧ (rf (AV.own 1056 2)) ∧ (Ob.row 2 ([] ++ List.map ivD l) = Ob.row 2 (List.map ivD l)) ∧ True) (h := {H := [(1, [(1, .val (.bool false))])]}) (subs := []) (ws := []) (ρ := []) (by kernel_rfl) ?_
 repeat' (with_reducible first|exact ⟨⟩|apply And.intro|(first|apply zA|apply zB|apply zC|apply zD|apply zE|apply zF|apply zG)<;>intro)
 all_goals first | exact hne | rfl | (simp; omega) | exact ivD_sz _ | skip
theorem ivD_cloneZ (a : Option Addr) (c : Nat) : FnOK Tryz.prog 76 ([.raw (.slice a 0 c)]) ([]) (.own 0 2) ([.row 2 []]) := by
 refine fnOK_wp (p := condP (a.isNone) ((rf (AV.own 900 2)) ∧ (rf (Ob.row 2 [])) ∧ True) ((0 ≤ 140737488355328) ∧ (∀ (e : D), e ∈ [] → e.cells.length = 2) ∧ (rf (AV.own 1056 2)) ∧ (rf (Ob.row 2 [])) ∧ True)) (h := {}) (subs := []) (ws := []) (ρ := []) (by kernel_rfl) ?_
 repeat' (with_reducible first|exact ⟨⟩|apply And.intro|(first|apply zA|apply zB|apply zC|apply zD|apply zE|apply zF|apply zG)<;>intro)
 all_goals first | rfl | (simp; done) | (intro e he; simp at he; done) | skip
theorem ivD_clone (l : List Iv) (hl : l.length < 1073741824) : FnOK Tryz.prog 76 [.d (.sl (l.map ivD))] [] (.own 0 2) [.row 2 (l.map ivD)] := by
 cases l with
 | nil => exact fnOK_nil fun a c => ivD_cloneZ a c
 | cons x r => exact ivD_cloneP (x :: r) hl (by simp)
def ivD_E (a b : List Iv) (j : Nat) : St := ⟨[(0, .d (.sl (a.map ivD))), (1, .d (.sl (b.map ivD))), (13, .d (.int .i64 j)), (12, .d (.int .i64 a.length))], []⟩
def ivD_O : St := ⟨[(4, .d (.bool false))], []⟩
theorem ivD_er (a b : List Iv) (hl : a.length < 1073741824) (j : Nat) (x : Iv) (hx : a[j]? = some x) (hy : b[j]? = some x) : Runs Tryz.prog 0 (loopN Tryz.prog 97 0) (St.as (ivD_E a b j) 26) (.normal) (St.as (ivD_E a b (j+1)) 26) := by
 refine round_wp (p := condP (decide ((↑j : Int) < (↑a.length : Int))) (((0 : Int) ≤ (↑j : Int)) ∧ ((List.map ivD a)[(↑j : Int).toNat]? = some (ivD x)) ∧ ((0 : Int) ≤ (↑j : Int)) ∧ ((List.map ivD b)[(↑j : Int).toNat]? = some (ivD x)) ∧ ((D.bool !(x.fst == x.fst && (x.snd == x.snd && true))) = D.bool false) ∧ (rf (vL (List.map ivD a))) ∧ (rf (vL (List.map ivD b))) ∧ (vI (IntKind.i64.wrap ((↑j : Int) + (1 : Int))) = vI (↑(j + 1) : Int)) ∧ (rf (vI (↑a.length : Int))) ∧ True) (False)) (h := {els := [(16, .el (ivD x)), (20, .el (ivD x))], H := [(6, [(8, .val (.bool false))])]}) (subs := []) (ws := []) (ρ := []) (by kernel_rfl) ?_
 have hj := get_lt hx
 have hj2 := get_lt hy
 have hi := inc_i64 (j := j) (by omega)
 simp only [List.length_map, hi]
 refine condP_t (by rw [decide_eq_true_eq]; omega) ?_
 repeat' (with_reducible first|exact ⟨⟩|apply And.intro|(first|apply zA|apply zB|apply zC|apply zD|apply zE|apply zF|apply zG)<;>intro)
 all_goals first | exact el_map hx rfl | exact el_map hy rfl | rfl | omega | (refine congrArg D.bool ?_; simp; done) | (exfalso; simp_all; done) | (refine congrArg D.bool ?_; rw [ivD_ne hne]; rfl) | (exfalso; have hq := ivD_ne hne; simp_all; done) | skip
theorem ivD_ee (a b : List Iv) (hl : a.length < 1073741824) (j : Nat) (x y : Iv) (hx : a[j]? = some x) (hy : b[j]? = some y) (hne : x ≠ y) : Runs Tryz.prog 0 (loopN Tryz.prog 97 0) (St.as (ivD_E a b j) 26) (.ret) (St.as (ivD_O) 26) := by
 refine round_wp (p := condP (decide ((↑j : Int) < (↑a.length : Int))) (((0 : Int) ≤ (↑j : Int)) ∧ ((List.map ivD a)[(↑j : Int).toNat]? = some (ivD x)) ∧ ((0 : Int) ≤ (↑j : Int)) ∧ ((List.map ivD b)[(↑j : Int).toNat]? = some (ivD y)) ∧ ((D.bool !(x.fst == y.fst && (x.snd == y.snd && true))) = D.bool true) ∧ (rf (vB false)) ∧ True) (False)) (h := {els := [(16, .el (ivD x)), (20, .el (ivD y))], H := [(6, [(8, .val (.bool true))])]}) (subs := []) (ws := []) (ρ := []) (by kernel_rfl) ?_
 have hj := get_lt hx
 have hj2 := get_lt hy
 have hi := inc_i64 (j := j) (by omega)
 simp only [List.length_map, hi]
 refine condP_t (by rw [decide_eq_true_eq]; omega) ?_
 repeat' (with_reducible first|exact ⟨⟩|apply And.intro|(first|apply zA|apply zB|apply zC|apply zD|apply zE|apply zF|apply zG)<;>intro)
 all_goals first | exact el_map hx rfl | exact el_map hy rfl | rfl | omega | (refine congrArg D.bool ?_; simp; done) | (exfalso; simp_all; done) | (refine congrArg D.bool ?_; rw [ivD_ne hne]; rfl) | (exfalso; have hq := ivD_ne hne; simp_all; done) | skip
theorem ivD_eq' (a b : List Iv) : Runs Tryz.prog 0 (loopN Tryz.prog 97 0) (St.as (ivD_E a b a.length) 26) (.exit 0) (St.as (ivD_E a b a.length) 26) := by
 refine round_wp (p := condP (decide ((↑a.length : Int) < (↑a.length : Int))) (False) ((rf (vL (List.map ivD a))) ∧ (rf (vL (List.map ivD b))) ∧ (rf (vI (↑a.length : Int))) ∧ (rf (vI (↑a.length : Int))) ∧ True)) (h := {}) (subs := []) (ws := []) (ρ := []) (by kernel_rfl) ?_
 repeat' (with_reducible first|exact ⟨⟩|apply And.intro|(first|apply zA|apply zB|apply zC|apply zD|apply zE|apply zF|apply zG)<;>intro)
 all_goals (try simp only [List.length_map, AV.d.injEq, D.int.injEq, D.bool.injEq, D.str.injEq, D.sl.injEq, true_and, and_true, decide_eq_true_eq, decide_eq_false_iff_not, decide_eq_decide])
 all_goals (try simp only [List.length_map] at *)
 all_goals first | rfl | omega
theorem ivD_el (a b : List Iv) (h : a.length ≠ b.length) : FnOK Tryz.prog 97 ([.d (.sl (a.map ivD)), .d (.sl (b.map ivD))]) ([]) (.d (.bool false)) ([]) := by
 refine fnOK_wp (p := condP ((↑(List.map ivD a).length : Int) != (↑(List.map ivD b).length : Int)) ((rf (vB false)) ∧ True) ((rf (vL (List.map ivD a))) ∧ (rf (vL (List.map ivD b))) ∧ (rf (vI 0)) ∧ (vI (↑(List.map ivD a).length : Int) = vI (↑a.length : Int)) ∧ (LoopsS Tryz.prog 0 (loopN Tryz.prog 97 0) (ivD_E a b 0) Exit.ret ivD_O 26) ∧ (rf (vB false)) ∧ True)) (h := {}) (subs := [⟨[], [], ivD_E a b 0, .ret, ivD_O⟩]) (ws := []) (ρ := []) (by kernel_rfl) ?_
 simp only [List.length_map]
 refine condP_t (by simp; omega) ?_
 first | trivial | exact ⟨rfl, trivial⟩
theorem ivD_ey (a b : List Iv) (h : a.length = b.length) (hL : Loops Tryz.prog 0 (loopN Tryz.prog 97 0) ((ivD_E a b 0).as 26) (.exit 0) ((ivD_E a b a.length).as 26)) : FnOK Tryz.prog 97 ([.d (.sl (a.map ivD)), .d (.sl (b.map ivD))]) ([]) (.d (.bool true)) ([]) := by
 refine fnOK_wp (p := (D.bool ((↑(List.map ivD a).length : Int) != (↑(List.map ivD b).length : Int)) = D.bool false) ∧ (rf (vL (List.map ivD a))) ∧ (rf (vL (List.map ivD b))) ∧ (rf (vI 0)) ∧ (vI (↑(List.map ivD a).length : Int) = vI (↑a.length : Int)) ∧ (LoopsS Tryz.prog 0 (loopN Tryz.prog 97 0) (ivD_E a b 0) (Exit.exit 0) (ivD_E a b a.length) 26) ∧ (rf (vB true)) ∧ True) (h := {H := [(1, [(4, .val (.bool false))])]}) (subs := [⟨[], [], ivD_E a b 0, .exit 0, ivD_E a b a.length⟩]) (ws := []) (ρ := []) (by kernel_rfl) ?_
 simp only [List.length_map]
 repeat' (with_reducible first|exact ⟨⟩|apply And.intro|(first|apply zA|apply zB|apply zC|apply zD|apply zE|apply zF|apply zG)<;>intro)
 all_goals first | exact hL | rfl | exact dno (by omega) | (exfalso; omega) | (refine congrArg D.bool ?_; simp; omega) | skip
theorem ivD_en (a b : List Iv) (h : a.length = b.length) (hL : Loops Tryz.prog 0 (loopN Tryz.prog 97 0) ((ivD_E a b 0).as 26) .ret (ivD_O.as 26)) : FnOK Tryz.prog 97 ([.d (.sl (a.map ivD)), .d (.sl (b.map ivD))]) ([]) (.d (.bool false)) ([]) := by
 refine fnOK_wp (p := (D.bool ((↑(List.map ivD a).length : Int) != (↑(List.map ivD b).length : Int)) = D.bool false) ∧ (rf (vL (List.map ivD a))) ∧ (rf (vL (List.map ivD b))) ∧ (rf (vI 0)) ∧ (vI (↑(List.map ivD a).length : Int) = vI (↑a.length : Int)) ∧ (LoopsS Tryz.prog 0 (loopN Tryz.prog 97 0) (ivD_E a b 0) Exit.ret ivD_O 26) ∧ (rf (vB false)) ∧ True) (h := {H := [(1, [(4, .val (.bool false))])]}) (subs := [⟨[], [], ivD_E a b 0, .ret, ivD_O⟩]) (ws := []) (ρ := []) (by kernel_rfl) ?_
 simp only [List.length_map]
 repeat' (with_reducible first|exact ⟨⟩|apply And.intro|(first|apply zA|apply zB|apply zC|apply zD|apply zE|apply zF|apply zG)<;>intro)
 all_goals first | exact hL | rfl | exact dno (by omega) | (exfalso; omega) | (refine congrArg D.bool ?_; simp; omega) | skip
theorem ivD_equal (a b : List Iv) (hl : a.length < 1073741824) : FnOK Tryz.prog 97 [.d (.sl (a.map ivD)), .d (.sl (b.map ivD))] [] (.d (.bool (decide (a = b)))) [] := by
 by_cases h : a.length = b.length
 ·rcases diff_or a b h with e | ⟨m, x, y, h1, h2, h3, h4⟩
  ·rw [decide_eq_true e]
   refine ivD_ey a b h (loops_n (I := fun j => (ivD_E a b j).as 26) (by simp) a.length 0 (by omega) (fun j _ hj => ivD_er a b hl j a[j] (get_of hj) (by rw [← e]; exact get_of hj)) (ivD_eq' a b))
  ·have hm := get_lt h1
   rw [decide_eq_false (by rintro rfl; rw [h1] at h2; cases h2; exact h3 rfl)]
   exact ivD_en a b h (loops_n (I := fun j => (ivD_E a b j).as 26) (by simp) m 0 (by omega) (fun j _ hj => ivD_er a b hl j (a[j]'(by omega)) (get_of _) (h4 j _ hj (get_of _))) (ivD_ee a b hl m x y h1 h2 h3))
 ·rw [decide_eq_false (by rintro rfl; exact h rfl)]; exact ivD_el a b h
def ivD_IO (m : Int) : St := ⟨[(4, .d (.int .i64 m))], []⟩
def ivD_IF (g : Nat) (l : List Iv) (j : Nat) : St := ⟨[(0, .d (.sl (l.map ivD))), (1, .fn g []), (7, .d (.int .i64 l.length)), (8, .d (.int .i64 j))], []⟩
theorem ivD_irF (g : Nat) (l : List Iv) (hl : l.length < 1073741824) (j : Nat) (x : Iv) (hn : l[j]? = some x) (hx : FnOK Tryz.prog g [.d (ivD x)] [] (.d (.bool false)) []) : Runs Tryz.prog 0 (loopN Tryz.prog 123 0) (St.as (ivD_IF g l j) 19) (.normal) (St.as (ivD_IF g l (j+1)) 19) := by
 refine round_wp (p := condP (decide ((↑j : Int) < (↑l.length : Int))) (((0 : Int) ≤ (↑j : Int)) ∧ ((List.map ivD l)[(↑j : Int).toNat]? = some (ivD x)) ∧ (FnOK Tryz.prog g [AV.d (ivD x)] [] (vB false) []) ∧ (rf (vL (List.map ivD l))) ∧ (rf (AV.fn g [])) ∧ (rf (vI (↑l.length : Int))) ∧ (vI (IntKind.i64.wrap ((↑j : Int) + (1 : Int))) = vI (↑(j + 1) : Int)) ∧ True) (False)) (h := {els := [(12, .el (ivD x)), (11, .call [] (.d (.bool false)) [])]}) (subs := []) (ws := []) (ρ := []) (by kernel_rfl) ?_
 have hj := get_lt hn
 have hi := inc_i64 (j := j) (by omega)
 rw [hi]
 refine condP_t (by rw [decide_eq_true_eq]; omega) ?_
 repeat' (with_reducible first|exact ⟨⟩|apply And.intro|(first|apply zA|apply zB|apply zC|apply zD|apply zE|apply zF|apply zG)<;>intro)
 all_goals first | exact hx | exact el_map hn rfl | rfl | omega | skip
theorem ivD_ieF (g : Nat) (l : List Iv) (hl : l.length < 1073741824) (j : Nat) (x : Iv) (hn : l[j]? = some x) (hx : FnOK Tryz.prog g [.d (ivD x)] [] (.d (.bool true)) []) : Runs Tryz.prog 0 (loopN Tryz.prog 123 0) (St.as (ivD_IF g l j) 19) (.ret) (St.as (ivD_IO j) 19) := by
 refine round_wp (p := condP (decide ((↑j : Int) < (↑l.length : Int))) (((0 : Int) ≤ (↑j : Int)) ∧ ((List.map ivD l)[(↑j : Int).toNat]? = some (ivD x)) ∧ (FnOK Tryz.prog g [AV.d (ivD x)] [] (vB true) []) ∧ (rf (vI (↑j : Int))) ∧ True) (False)) (h := {els := [(12, .el (ivD x)), (11, .call [] (.d (.bool true)) [])]}) (subs := []) (ws := []) (ρ := []) (by kernel_rfl) ?_
 have hj := get_lt hn
 refine condP_t (by rw [decide_eq_true_eq]; omega) ?_
 repeat' (with_reducible first|exact ⟨⟩|apply And.intro|(first|apply zA|apply zB|apply zC|apply zD|apply zE|apply zF|apply zG)<;>intro)
 all_goals first | exact hx | exact el_map hn rfl | rfl | omega | skip
theorem ivD_iqF (g : Nat) (l : List Iv) : Runs Tryz.prog 0 (loopN Tryz.prog 123 0) (St.as (ivD_IF g l l.length) 19) (.exit 0) (St.as (ivD_IF g l l.length) 19) := by
 refine round_wp (p := condP (decide ((↑l.length : Int) < (↑l.length : Int))) (False) ((rf (vL (List.map ivD l))) ∧ (rf (AV.fn g [])) ∧ (rf (vI (↑l.length : Int))) ∧ (rf (vI (↑l.length : Int))) ∧ True)) (h := {}) (subs := []) (ws := []) (ρ := []) (by kernel_rfl) ?_
 repeat' (with_reducible first|exact ⟨⟩|apply And.intro|(first|apply zA|apply zB|apply zC|apply zD|apply zE|apply zF|apply zG)<;>intro)
 all_goals (try simp only [List.length_map, AV.d.injEq, D.int.injEq, D.bool.injEq, D.str.injEq, D.sl.injEq, true_and, and_true, decide_eq_true_eq, decide_eq_false_iff_not, decide_eq_decide])
 all_goals (try simp only [List.length_map] at *)
 all_goals first | rfl | omega
theorem ivD_inF (g : Nat) (l : List Iv) (hL : Loops Tryz.prog 0 (loopN Tryz.prog 123 0) ((ivD_IF g l 0).as 19) (.exit 0) ((ivD_IF g l l.length).as 19)) : FnOK Tryz.prog 123 ([.d (.sl (l.map ivD)), .fn g []]) ([]) (.d (.int .i64 (-1))) ([]) := by
 refine fnOK_wp (p := (rf (vL (List.map ivD l))) ∧ (rf (AV.fn g [])) ∧ (vI (↑(List.map ivD l).length : Int) = vI (↑l.length : Int)) ∧ (rf (vI 0)) ∧ (LoopsS Tryz.prog 0 (loopN Tryz.prog 123 0) (ivD_IF g l 0) (Exit.exit 0) (ivD_IF g l l.length) 19) ∧ (rf (vI (-1 : Int))) ∧ True) (h := {}) (subs := [⟨[], [], ivD_IF g l 0, .exit 0, ivD_IF g l l.length⟩]) (ws := []) (ρ := []) (by kernel_rfl) ?_
 simp only [List.length_map]
 repeat' (with_reducible first|exact ⟨⟩|apply And.intro|(first|apply zA|apply zB|apply zC|apply zD|apply zE|apply zF|apply zG)<;>intro)
 all_goals first | exact hL | rfl | skip
theorem ivD_iyF (g : Nat) (l : List Iv) (m : Nat) (hL : Loops Tryz.prog 0 (loopN Tryz.prog 123 0) ((ivD_IF g l 0).as 19) .ret ((ivD_IO m).as 19)) : FnOK Tryz.prog 123 ([.d (.sl (l.map ivD)), .fn g []]) ([]) (.d (.int .i64 m)) ([]) := by
 refine fnOK_wp (p := (rf (vL (List.map ivD l))) ∧ (rf (AV.fn g [])) ∧ (vI (↑(List.map ivD l).length : Int) = vI (↑l.length : Int)) ∧ (rf (vI 0)) ∧ (LoopsS Tryz.prog 0 (loopN Tryz.prog 123 0) (ivD_IF g l 0) Exit.ret (ivD_IO (↑m : Int)) 19) ∧ (rf (vI (↑m : Int))) ∧ True) (h := {}) (subs := [⟨[], [], ivD_IF g l 0, .ret, ivD_IO m⟩]) (ws := []) (ρ := []) (by kernel_rfl) ?_
 simp only [List.length_map]
 repeat' (with_reducible first|exact ⟨⟩|apply And.intro|(first|apply zA|apply zB|apply zC|apply zD|apply zE|apply zF|apply zG)<;>intro)
 all_goals first | exact hL | rfl | skip
theorem ivD_indexF (g : Nat) (F : Iv → Bool) (l : List Iv) (hl : l.length < 1073741824) (hF : ∀ x ∈ l, FnOK Tryz.prog g [.d (ivD x)] [] (.d (.bool (F x))) []) : ∃ k : Int, decide (k ≥ 0) = l.any F ∧ FnOK Tryz.prog 123 [.d (.sl (l.map ivD)), .fn g []] [] (.d (.int .i64 k)) [] := by
 rcases all_or (fun x => F x = false) l with h | ⟨m, x, h1, h2, h3⟩
 ·refine ⟨-1, ?_, ivD_inF g l (loops_n (I := fun j => (ivD_IF g l j).as 19) (by simp) l.length 0 (by omega) (fun j _ hj => ivD_irF g l hl j l[j] (get_of hj) (by have := hF _ (List.getElem_mem hj); rw [h _ (List.getElem_mem hj)] at this; exact this)) (ivD_iqF g l))⟩
  have : l.any F = false := by rw [List.any_eq_false]; intro x hx; rw [h x hx]; simp
  rw [this]; rfl
 ·have hm := get_lt h1
  have h2 : F x = true := by cases hw : F x; exact absurd hw h2; rfl
  refine ⟨(m : Int), ?_, ivD_iyF g l m (loops_n (I := fun j => (ivD_IF g l j).as 19) (by simp) m 0 (by omega) (fun j _ hj => ivD_irF g l hl j (l[j]'(by omega)) (get_of _) (by have := hF (l[j]'(by omega)) (List.getElem_mem _); rw [h3 j _ hj (get_of _)] at this; exact this)) (ivD_ieF g l hl m x h1 (by have := hF _ (get_mem h1); rw [h2] at this; exact this)))⟩
  have : l.any F = true := List.any_eq_true.2 ⟨x, get_mem h1, h2⟩
  rw [this]; exact decide_eq_true (by omega)
theorem ivD_cfF (g : Nat) (l : List Iv) (k : Int) (h : FnOK Tryz.prog 123 [.d (.sl (l.map ivD)), .fn g []] [] (.d (.int .i64 k)) []) : FnOK Tryz.prog 115 ([.d (.sl (l.map ivD)), .fn g []]) ([]) (.d (.bool (decide (k ≥ 0)))) ([]) := by
 refine fnOK_wp (p := (FnOK Tryz.prog 123 [vL (List.map ivD l), AV.fn g []] [] (vI k) []) ∧ (rf (vB (decide (k ≥ (0 : Int))))) ∧ True) (h := {H := [(1, [(2, .call [] (.d (.int .i64 k)) [])])]}) (subs := []) (ws := []) (ρ := []) (by kernel_rfl) ?_
 exact ⟨h, rfl, trivial⟩
theorem ivD_containsF (g : Nat) (F : Iv → Bool) (l : List Iv) (hl : l.length < 1073741824) (hF : ∀ x ∈ l, FnOK Tryz.prog g [.d (ivD x)] [] (.d (.bool (F x))) []) : FnOK Tryz.prog 115 [.d (.sl (l.map ivD)), .fn g []] [] (.d (.bool (l.any F))) [] := by
 obtain ⟨k, h1, h2⟩ := ivD_indexF g F l hl hF
 rw [← h1]
 exact ivD_cfF g l k h2
theorem end42 (n : Int) (k1 : True) (k2 : True) : FnOK Tryz.prog 124 ([.d (.int .i64 n)]) ([]) (.d (.bool (endB n))) ([]) := by
 refine fnOK_wp (p := condP (decide (n ≥ (0 : Int))) ((D.bool (decide (n ≥ (0 : Int))) = D.bool true) ∧ (vB (decide (n ≤ (4611686018427387903 : Int))) = vB (endB n)) ∧ True) ((D.bool (decide (n ≥ (0 : Int))) = D.bool false) ∧ (vB false = vB (endB n)) ∧ True)) (h := {}) (subs := []) (ws := []) (ρ := []) (by kernel_rfl) ?_
 unfold endB
 repeat' (with_reducible first|exact ⟨⟩|apply And.intro|(first|apply zA|apply zB|apply zC|apply zD|apply zE|apply zF|apply zG)<;>intro)
 all_goals first | rfl | exact dyes ‹_› | exact dno ‹_› | (refine congrArg (fun z => AV.d (.bool z)) ?_; rw [decide_eq_true (p := n ≥ 0) (by assumption), Bool.true_and]; done) | (refine congrArg (fun z => AV.d (.bool z)) ?_; rw [decide_eq_false (p := n ≥ 0) (by assumption)]; rfl) | skip
def gEnd : List D → Option (AV × List Ob) := fun | [.int _ n] => some (.d (.bool (endB n)), []) | _ => none
theorem may30 (x : Iv) : FnOK Tryz.prog 117 ([.d (ivD x)]) ([]) (.d (.bool (mayB x))) ([]) := by
 refine fnOK_wp (p := condP (endB x.fst) ((FnOK Tryz.prog 124 [vI x.fst] [] (vB (endB x.fst)) []) ∧ (D.bool (endB x.fst) = D.bool true) ∧ (FnOK Tryz.prog 124 [vI x.snd] [] (vB (endB x.snd)) []) ∧ (vB (endB x.snd) = vB (mayB x)) ∧ True) ((FnOK Tryz.prog 124 [vI x.fst] [] (vB (endB x.fst)) []) ∧ (D.bool (endB x.fst) = D.bool false) ∧ (vB false = vB (mayB x)) ∧ True)) (h := {G := [(124, gEnd)]}) (subs := []) (ws := []) (ρ := []) (by kernel_rfl) ?_
 have k1 := end42 x.1 trivial trivial
 have k2 := end42 x.2 trivial trivial
 unfold mayB
 repeat' (with_reducible first|exact ⟨⟩|apply And.intro|(first|apply zA|apply zB|apply zC|apply zD|apply zE|apply zF|apply zG)<;>intro)
 all_goals first | exact k1 | exact k2 | rfl | (refine congrArg (fun z => AV.d (.bool z)) ?_; simp_all; done) | (refine congrArg D.bool ?_; simp_all; done) | skip
theorem none31 (x : Iv) : FnOK Tryz.prog 118 ([.d (ivD x)]) ([]) (.d (.bool (noneB x))) ([]) := by
 refine fnOK_wp (p := (vB (decide (x.snd ≤ x.fst)) = vB (noneB x)) ∧ True) (h := {}) (subs := []) (ws := []) (ρ := []) (by kernel_rfl) ?_
 exact ⟨rfl, trivial⟩
theorem chk39 (x : Iv) : FnOK Tryz.prog 116 ([.d (ivD x)]) ([]) (.d (.bool (!mayB x))) ([]) := by
 refine fnOK_wp (p := (FnOK Tryz.prog 117 [AV.d (ivD x)] [] (vB (mayB x)) []) ∧ (rf (vB !mayB x)) ∧ True) (h := {G := [(117, gAns (.d (.bool (mayB x))))]}) (subs := []) (ws := []) (ρ := []) (by kernel_rfl) ?_
 have k1 := may30 x
 have k2 := k1
 repeat' (with_reducible first|exact ⟨⟩|apply And.intro|(first|apply zA|apply zB|apply zC|apply zD|apply zE|apply zF|apply zG)<;>intro)
 all_goals first | exact k1 | exact k2 | rfl | (refine congrArg (fun z => AV.d (.bool z)) ?_; simp_all; done) | (refine congrArg D.bool ?_; simp_all; done) | skip
def I19 (s : List Iv) (j : Nat) : St := ⟨[(0, .d (.sl (s.map ivD))), (3, .d (.int .i64 j))], []⟩
def O19 (n : Int) : St := ⟨[(2, .d (.int .i64 n))], []⟩
theorem r19 (s : List Iv) (hl : s.length < 1000000) (j : Nat) (x y : Iv) (hx : s[j]? = some x) (hy : s[j + 1]? = some y) (h : ¬y.1 ≤ x.2) : Runs Tryz.prog 0 (loopN Tryz.prog 102 0) (St.as (I19 s (j+1)) 28) (.normal) (St.as (I19 s (j+1+1)) 28) := by
 refine round_wp (p := condP (decide ((↑(j + 1) : Int) < (↑(List.map ivD s).length : Int))) (((0 : Int) ≤ (↑(j + 1) : Int)) ∧ ((List.map ivD s)[(↑(j + 1) : Int).toNat]? = some (ivD y)) ∧ ((0 : Int) ≤ IntKind.i64.wrap ((↑(j + 1) : Int) - (1 : Int))) ∧ ((List.map ivD s)[(IntKind.i64.wrap ((↑(j + 1) : Int) - (1 : Int))).toNat]? = some (ivD x)) ∧ (D.bool (decide (y.fst ≤ x.snd)) = D.bool false) ∧ (rf (vL (List.map ivD s))) ∧ (vI (IntKind.i64.wrap ((↑(j + 1) : Int) + (1 : Int))) = vI (↑(j + 1 + 1) : Int)) ∧ True) (False)) (h := {els := [(16, .el (ivD y)), (21, .el (ivD x))], H := [(8, [(11, .val (.bool false))])]}) (subs := []) (ws := []) (ρ := []) (by kernel_rfl) ?_
 have hj := get_lt hy
 have hi : IntKind.i64.wrap (((j + 1 : Nat) : Int) + 1) = ((j + 1 + 1 : Nat) : Int) := inc_i64 (by omega)
 have hw : IntKind.i64.wrap (((j + 1 : Nat) : Int) - 1) = (j : Int) := by rw [IntKind.wrap_i64]; omega
 simp only [hi, hw, List.length_map]
 refine condP_t (by rw [decide_eq_true_eq]; omega) ?_
 repeat' (with_reducible first|exact ⟨⟩|apply And.intro|(first|apply zA|apply zB|apply zC|apply zD|apply zE|apply zF|apply zG)<;>intro)
 all_goals first | exact el_map hx rfl | exact el_map hy rfl | rfl | omega | exact dyes (by omega) | exact dno (by omega) | (exfalso; omega) | skip
theorem e19 (s : List Iv) (hl : s.length < 1000000) (j : Nat) (x y : Iv) (hx : s[j]? = some x) (hy : s[j + 1]? = some y) (h : y.1 ≤ x.2) : Runs Tryz.prog 0 (loopN Tryz.prog 102 0) (St.as (I19 s (j+1)) 28) (.ret) (St.as (O19 10) 28) := by
 refine round_wp (p := condP (decide ((↑(j + 1) : Int) < (↑(List.map ivD s).length : Int))) (((0 : Int) ≤ (↑(j + 1) : Int)) ∧ ((List.map ivD s)[(↑(j + 1) : Int).toNat]? = some (ivD y)) ∧ ((0 : Int) ≤ IntKind.i64.wrap ((↑(j + 1) : Int) - (1 : Int))) ∧ ((List.map ivD s)[(IntKind.i64.wrap ((↑(j + 1) : Int) - (1 : Int))).toNat]? = some (ivD x)) ∧ (D.bool (decide (y.fst ≤ x.snd)) = D.bool true) ∧ (rf (vI 10)) ∧ True) (False)) (h := {els := [(16, .el (ivD y)), (21, .el (ivD x))], H := [(8, [(11, .val (.bool true))])]}) (subs := []) (ws := []) (ρ := []) (by kernel_rfl) ?_
 have hj := get_lt hy
 have hi : IntKind.i64.wrap (((j + 1 : Nat) : Int) + 1) = ((j + 1 + 1 : Nat) : Int) := inc_i64 (by omega)
 have hw : IntKind.i64.wrap (((j + 1 : Nat) : Int) - 1) = (j : Int) := by rw [IntKind.wrap_i64]; omega
 simp only [hi, hw, List.length_map]
 refine condP_t (by rw [decide_eq_true_eq]; omega) ?_
 repeat' (with_reducible first|exact ⟨⟩|apply And.intro|(first|apply zA|apply zB|apply zC|apply zD|apply zE|apply zF|apply zG)<;>intro)
 all_goals first | exact el_map hx rfl | exact el_map hy rfl | rfl | omega | exact dyes (by omega) | exact dno (by omega) | (exfalso; omega) | skip
theorem q19 (s : List Iv) (j : Nat) (hj : s.length ≤ j) : Runs Tryz.prog 0 (loopN Tryz.prog 102 0) (St.as (I19 s j) 28) (.exit 1) (St.as (I19 s j) 28) := by
 refine round_wp (p := condP (decide ((↑j : Int) < (↑(List.map ivD s).length : Int))) (False) ((rf (vL (List.map ivD s))) ∧ (rf (vI (↑j : Int))) ∧ True)) (h := {}) (subs := []) (ws := []) (ρ := []) (by kernel_rfl) ?_
 repeat' (with_reducible first|exact ⟨⟩|apply And.intro|(first|apply zA|apply zB|apply zC|apply zD|apply zE|apply zF|apply zG)<;>intro)
 all_goals (try simp only [List.length_map, AV.d.injEq, D.int.injEq, D.bool.injEq, D.str.injEq, D.sl.injEq, true_and, and_true, decide_eq_true_eq, decide_eq_false_iff_not, decide_eq_decide])
 all_goals (try simp only [List.length_map] at *)
 all_goals first | rfl | omega
theorem l19 (s : List Iv) (hl : s.length < 1000000) : ∀ (m : List Iv) (j : Nat), s.drop j = m →
  (ordB m = false → ∃ k, Loops Tryz.prog 0 (loopN Tryz.prog 102 0) ((I19 s (j+1)).as 28) (.exit 1) ((I19 s k).as 28)) ∧
  (ordB m = true → Loops Tryz.prog 0 (loopN Tryz.prog 102 0) ((I19 s (j+1)).as 28) .ret ((O19 10).as 28))
 | [], j, hd => by
  have : s.length ≤ j := List.drop_eq_nil_iff.1 hd
  exact ⟨fun _ => ⟨_, .out (q19 s (j+1) (by omega)) (by simp)⟩, fun h => by cases h⟩
 | [x], j, hd => by
  have h1 : (s.drop j).length = 1 := by rw [hd]; rfl
  rw [List.length_drop] at h1
  exact ⟨fun _ => ⟨_, .out (q19 s (j+1) (by omega)) (by simp)⟩, fun h => by cases h⟩
 | x :: y :: r, j, hd => by
  have hx : s[j]? = some x := by
   have : (s.drop j)[0]? = some x := by rw [hd]; rfl
   rw [List.getElem?_drop] at this; exact this
  have hy : s[j + 1]? = some y := by
   have : (s.drop j)[1]? = some y := by rw [hd]; rfl
   rw [List.getElem?_drop] at this; exact this
  have hd2 : s.drop (j + 1) = y :: r := by rw [← List.drop_drop, hd]; rfl
  obtain ⟨i1, i2⟩ := l19 s hl (y :: r) (j + 1) hd2
  show ((decide (y.1 ≤ x.2) || ordB (y :: r)) = false → _) ∧ ((decide (y.1 ≤ x.2) || ordB (y :: r)) = true → _)
  by_cases h : y.1 ≤ x.2
  ·rw [decide_eq_true h]
   exact ⟨fun h => by simp at h, fun _ => .out (e19 s hl j x y hx hy h) (by simp)⟩
  ·rw [decide_eq_false h, Bool.false_or]
   refine ⟨fun g => ?_, fun g => ?_⟩
   ·obtain ⟨k, hk⟩ := i1 g
    exact ⟨k, .next (r19 s hl j x y hx hy h) hk⟩
   ·exact .next (r19 s hl j x y hx hy h) (i2 g)
theorem chk19a (s : List Iv) (k2 : True) (hL : True) (k1 : FnOK Tryz.prog 115 [.d (.sl (s.map ivD)), .fn 116 []] [] (.d (.bool true)) []) : FnOK Tryz.prog 102 ([.d (.sl (s.map ivD))]) ([]) (.d (.int .i64 8)) ([]) := by
 refine fnOK_wp (p := (FnOK Tryz.prog 115 [vL (List.map ivD s), AV.fn 116 []] [] (vB true) []) ∧ (rf (vI 8)) ∧ True) (h := {H := [(1, [(1, .call [] (.d (.bool true)) [])])]}) (subs := []) (ws := []) (ρ := []) (by kernel_rfl) ?_
 repeat' (with_reducible first|exact ⟨⟩|apply And.intro|(first|apply zA|apply zB|apply zC|apply zD|apply zE|apply zF|apply zG)<;>intro)
 all_goals first | exact k1 | exact k2 | exact hL | rfl | skip
theorem chk19b (s : List Iv) (hL : True) (k1 : FnOK Tryz.prog 115 [.d (.sl (s.map ivD)), .fn 116 []] [] (.d (.bool false)) []) (k2 : FnOK Tryz.prog 115 [.d (.sl (s.map ivD)), .fn 118 []] [] (.d (.bool true)) []) : FnOK Tryz.prog 102 ([.d (.sl (s.map ivD))]) ([]) (.d (.int .i64 4)) ([]) := by
 refine fnOK_wp (p := (FnOK Tryz.prog 115 [vL (List.map ivD s), AV.fn 116 []] [] (vB false) []) ∧ (FnOK Tryz.prog 115 [vL (List.map ivD s), AV.fn 118 []] [] (vB true) []) ∧ (rf (vI 4)) ∧ True) (h := {H := [(1, [(1, .call [] (.d (.bool false)) [])]), (3, [(1, .call [] (.d (.bool true)) [])])]}) (subs := []) (ws := []) (ρ := []) (by kernel_rfl) ?_
 repeat' (with_reducible first|exact ⟨⟩|apply And.intro|(first|apply zA|apply zB|apply zC|apply zD|apply zE|apply zF|apply zG)<;>intro)
 all_goals first | exact k1 | exact k2 | exact hL | rfl | skip
theorem chk19c (s : List Iv) (k1 : FnOK Tryz.prog 115 [.d (.sl (s.map ivD)), .fn 116 []] [] (.d (.bool false)) []) (k2 : FnOK Tryz.prog 115 [.d (.sl (s.map ivD)), .fn 118 []] [] (.d (.bool false)) []) (hL : Loops Tryz.prog 0 (loopN Tryz.prog 102 0) ((I19 s (0+1)).as 28) .ret ((O19 10).as 28)) : FnOK Tryz.prog 102 ([.d (.sl (s.map ivD))]) ([]) (.d (.int .i64 10)) ([]) := by
 refine fnOK_wp (p := (FnOK Tryz.prog 115 [vL (List.map ivD s), AV.fn 116 []] [] (vB false) []) ∧ (FnOK Tryz.prog 115 [vL (List.map ivD s), AV.fn 118 []] [] (vB false) []) ∧ (rf (vL (List.map ivD s))) ∧ (rf (vI 1)) ∧ (LoopsS Tryz.prog 0 (loopN Tryz.prog 102 0) (I19 s (0 + 1)) Exit.ret (O19 (10 : Int)) 28) ∧ (rf (vI 10)) ∧ True) (h := {H := [(1, [(1, .call [] (.d (.bool false)) [])]), (3, [(1, .call [] (.d (.bool false)) [])])]}) (subs := [⟨[], [], I19 s (0+1), .ret, O19 10⟩]) (ws := []) (ρ := []) (by kernel_rfl) ?_
 repeat' (with_reducible first|exact ⟨⟩|apply And.intro|(first|apply zA|apply zB|apply zC|apply zD|apply zE|apply zF|apply zG)<;>intro)
 all_goals first | exact k1 | exact k2 | exact hL | rfl | skip
theorem chk19d (s : List Iv) (k : Nat) (k1 : FnOK Tryz.prog 115 [.d (.sl (s.map ivD)), .fn 116 []] [] (.d (.bool false)) []) (k2 : FnOK Tryz.prog 115 [.d (.sl (s.map ivD)), .fn 118 []] [] (.d (.bool false)) []) (hL : Loops Tryz.prog 0 (loopN Tryz.prog 102 0) ((I19 s (0+1)).as 28) (.exit 1) ((I19 s k).as 28)) : FnOK Tryz.prog 102 ([.d (.sl (s.map ivD))]) ([]) (.d (.int .i64 0)) ([]) := by
 refine fnOK_wp (p := (FnOK Tryz.prog 115 [vL (List.map ivD s), AV.fn 116 []] [] (vB false) []) ∧ (FnOK Tryz.prog 115 [vL (List.map ivD s), AV.fn 118 []] [] (vB false) []) ∧ (rf (vL (List.map ivD s))) ∧ (rf (vI 1)) ∧ (LoopsS Tryz.prog 0 (loopN Tryz.prog 102 0) (I19 s (0 + 1)) (Exit.exit 1) (I19 s k) 28) ∧ (rf (vI 0)) ∧ True) (h := {H := [(1, [(1, .call [] (.d (.bool false)) [])]), (3, [(1, .call [] (.d (.bool false)) [])])]}) (subs := [⟨[], [], I19 s (0+1), .exit 1, I19 s k⟩]) (ws := []) (ρ := []) (by kernel_rfl) ?_
 repeat' (with_reducible first|exact ⟨⟩|apply And.intro|(first|apply zA|apply zB|apply zC|apply zD|apply zE|apply zF|apply zG)<;>intro)
 all_goals first | exact k1 | exact k2 | exact hL | rfl | skip
theorem chk19 (s : List Iv) (hl : s.length < 1000000) : FnOK Tryz.prog 102 [.d (.sl (s.map ivD))] [] (.d (.int .i64 (iChk s))) [] := by
 have k1 := ivD_containsF 116 (fun x => !mayB x) s (by omega) (fun x _ => chk39 x)
 have k2 := ivD_containsF 118 noneB s (by omega) (fun x _ => none31 x)
 obtain ⟨i1, i2⟩ := l19 s hl s 0 rfl
 unfold iChk
 cases h1 : s.any (fun x => !mayB x)
 ·rw [h1] at k1
  rw [if_neg (by simp)]
  cases h2 : s.any noneB
  ·rw [h2] at k2
   rw [if_neg (by simp)]
   cases h3 : ordB s
   ·rw [if_neg (by simp)]
    obtain ⟨k, hk⟩ := i1 h3
    exact chk19d s k k1 k2 hk
   ·rw [if_pos rfl]
    exact chk19c s k1 k2 (i2 h3)
  ·rw [h2] at k2
   rw [if_pos rfl]
   exact chk19b s trivial k1 k2
 ·rw [h1] at k1
  rw [if_pos rfl]
  exact chk19a s trivial trivial k1
end Go.Proofs.YtalpfhpeaaocmaaGreat.C06
end
