/-
laws 12: the places that came, joined.
-/
import Derived.Test.YtmnglolholdmaaaS6
set_option linter.unusedSimpArgs false
set_option linter.unusedVariables false
namespace Go.Proofs.Ytmnglolholdmaaa
open Sx Go.RowKit

set_option maxRecDepth 100000 in
set_option maxHeartbeats 1000000 in
theorem blk24e (s : Rq) (hb : Rb s) (most e : Int) (he : rChk s = e) (h1 : e ≠ 0) : FnOK Try.prog 24 ([.d (rqD s), .d (.int .i64 most)]) ([]) (.d (.sl [])) ([]) := by
  refine fnOK_wp (p := (FnOK Try.prog (17 : Nat) [AV.d (D.agg [D.int IntKind.i64 s.b, D.str s.r, D.sl (List.map ptD s.p)])] [] (AV.d (D.int IntKind.i64 e)) []) ∧ ((D.bool (e != (0 : Int)) = D.bool true) ∧ ((AV.d (D.sl []) = AV.d (D.sl [])) ∧ (True)))) (h := {G := [(17, gAns (.d (.int .i64 e)))], H := [(1, [(2, .val (.bool true))])]}) (subs := []) (ws := []) (ρ := []) (by kernel_rfl) ?_
  have k1 := chk17 s hb
  rw [he] at k1
  repeat' (first | with_reducible exact True.intro | with_reducible refine And.intro ?_ ?_ | with_reducible refine condP_dec (fun _ => ?_) (fun _ => ?_) | with_reducible refine condP_eq (fun _ => ?_) (fun _ => ?_) | with_reducible refine condP_ne (fun _ => ?_) (fun _ => ?_) | with_reducible refine condP_not (condP_dec (fun _ => ?_) (fun _ => ?_)) | with_reducible refine condP_not (condP_eq (fun _ => ?_) (fun _ => ?_)) | with_reducible refine condP_not (condP_intro (fun _ => ?_) (fun _ => ?_)) | with_reducible refine condP_intro (fun _ => ?_) (fun _ => ?_))
  all_goals first | exact k1 | rfl | (refine congrArg D.bool ?_; simpa using h1) | skip

set_option maxRecDepth 100000 in
set_option maxHeartbeats 1000000 in
theorem blk24y (s : Rq) (hb : Rb s) (most : Int) (he : rChk s = 0) (hL : Loops Try.prog 0 (loopN Try.prog 24 0) ((I24 s most 0).as 32) (.exit 0) ((I24 s most s.p.length).as 32)) : FnOK Try.prog 24 ([.d (rqD s), .d (.int .i64 most)]) ([]) (.d (.sl (((s.p.map ivP).take most.toNat).map ivD))) ([]) := by
  refine fnOK_wp (p := (FnOK Try.prog (17 : Nat) [AV.d (D.agg [D.int IntKind.i64 s.b, D.str s.r, D.sl (List.map ptD s.p)])] [] (AV.d (D.int IntKind.i64 (0 : Int))) []) ∧ ((AV.d (D.int IntKind.i64 most) = AV.d (D.int IntKind.i64 most)) ∧ ((AV.ptr (1016 : Nat) (0 : Nat) = AV.ptr (1016 : Nat) (0 : Nat)) ∧ ((AV.own (901 : Nat) (2 : Nat) = AV.own (901 : Nat) (2 : Nat)) ∧ ((AV.d (D.sl (List.map ptD s.p)) = AV.d (D.sl (List.map ptD s.p))) ∧ ((AV.d (D.int IntKind.i64 (↑(List.map ptD s.p).length : Int)) = AV.d (D.int IntKind.i64 (↑s.p.length : Int))) ∧ ((AV.d (D.int IntKind.i64 (0 : Int)) = AV.d (D.int IntKind.i64 (0 : Int))) ∧ ((Ob.box [AV.d (D.int IntKind.i64 s.b), AV.d (D.str s.r), AV.d (D.sl (List.map ptD s.p))] = Ob.box [AV.d (D.int IntKind.i64 s.b), AV.d (D.str s.r), AV.d (D.sl (List.map ptD s.p))]) ∧ ((Ob.row (2 : Nat) [] = Ob.row (2 : Nat) (List.map ivD (List.take most.toNat (List.map ivP (List.take (0 : Nat) s.p))))) ∧ ((LoopsS Try.prog (0 : Nat) (loopN Try.prog (24 : Nat) (0 : Nat)) (I24 s most (0 : Nat)) (Exit.exit (0 : Nat)) (I24 s most s.p.length) (32 : Nat)) ∧ ((AV.d (D.sl (List.map ivD (List.take most.toNat (List.map ivP (List.take s.p.length s.p))))) = AV.d (D.sl (List.map ivD (List.take most.toNat (List.map ivP s.p))))) ∧ (True)))))))))))) (h := {G := [(17, gAns (.d (.int .i64 0)))]}) (subs := [⟨[], [], I24 s most 0, .exit 0, I24 s most s.p.length⟩]) (ws := []) (ρ := []) (by kernel_rfl) ?_
  have k1 := chk17 s hb
  rw [he] at k1
  simp only [List.length_map]
  repeat' (first | with_reducible exact True.intro | with_reducible refine And.intro ?_ ?_ | with_reducible refine condP_dec (fun _ => ?_) (fun _ => ?_) | with_reducible refine condP_eq (fun _ => ?_) (fun _ => ?_) | with_reducible refine condP_ne (fun _ => ?_) (fun _ => ?_) | with_reducible refine condP_not (condP_dec (fun _ => ?_) (fun _ => ?_)) | with_reducible refine condP_not (condP_eq (fun _ => ?_) (fun _ => ?_)) | with_reducible refine condP_not (condP_intro (fun _ => ?_) (fun _ => ?_)) | with_reducible refine condP_intro (fun _ => ?_) (fun _ => ?_))
  all_goals first | exact k1 | exact hL | rfl | (simp; done) | (rw [List.take_length]; rfl) | (rw [List.take_length]; done) | skip

theorem blk24 (s : Rq) (hb : Rb s) (most : Int) : FnOK Try.prog 24 [.d (rqD s), .d (.int .i64 most)] [] (.d (.sl ((rBlk s most).map ivD))) [] := by
  unfold rBlk
  by_cases he : rChk s = 0
  · rw [if_pos he]
    have hz := chk_zero he
    have hm := rBad_mem (rLim_le s) hz.1.1 hz.2
    refine blk24y s hb most he (loops_n (I := fun j => (I24 s most j).as 32) (by simp) s.p.length 0 (by omega) (fun j _ hj => ?_) (q24 s most))
    have hw := (hm _ (List.getElem_mem hj)).2
    by_cases h : (j : Int) < most
    · exact r24a s hb most j _ (get_of hj) hw h
    · exact r24b s hb most j _ (get_of hj) hw h
  · rw [if_neg he]; exact blk24e s hb most _ rfl he
set_option maxRecDepth 100000 in
set_option maxHeartbeats 1000000 in
theorem came22' (s : Rq) (l : List Iv) (k1 : FnOK Try.prog 24 [.d (rqD s), .d (.int .i64 s.p.length)] [] (.d (.sl (l.map ivD))) []) : FnOK Try.prog 22 ([.d (rqD s)]) ([]) (.d (.sl (l.map ivD))) ([]) := by
  refine fnOK_wp (p := (FnOK Try.prog (24 : Nat) [AV.d (D.agg [D.int IntKind.i64 s.b, D.str s.r, D.sl (List.map ptD s.p)]), AV.d (D.int IntKind.i64 (↑(List.map ptD s.p).length : Int))] [] (AV.d (D.sl (List.map ivD l))) []) ∧ ((AV.d (D.sl (List.map ivD l)) = AV.d (D.sl (List.map ivD l))) ∧ (True))) (h := {G := [(24, gAns (.d (.sl (l.map ivD))))]}) (subs := []) (ws := []) (ρ := []) (by kernel_rfl) ?_
  simp only [List.length_map]
  repeat' (first | with_reducible exact True.intro | with_reducible refine And.intro ?_ ?_ | with_reducible refine condP_dec (fun _ => ?_) (fun _ => ?_) | with_reducible refine condP_eq (fun _ => ?_) (fun _ => ?_) | with_reducible refine condP_ne (fun _ => ?_) (fun _ => ?_) | with_reducible refine condP_not (condP_dec (fun _ => ?_) (fun _ => ?_)) | with_reducible refine condP_not (condP_eq (fun _ => ?_) (fun _ => ?_)) | with_reducible refine condP_not (condP_intro (fun _ => ?_) (fun _ => ?_)) | with_reducible refine condP_intro (fun _ => ?_) (fun _ => ?_))
  all_goals first | exact k1 | rfl | trivial

theorem blk_all (s : Rq) : rBlk s s.p.length = rCame s := by
  unfold rBlk rCame
  split
  · rw [Int.toNat_natCast, List.take_of_length_le (by simp)]
  · rfl
theorem came22 (s : Rq) (hb : Rb s) : FnOK Try.prog 22 [.d (rqD s)] [] (.d (.sl ((rCame s).map ivD))) [] := by
  rw [← blk_all]
  exact came22' s _ (blk24 s hb _)
/-! ### The document's -/
def I23 (s : Rq) (j : Nat) : St := ⟨[(1, .ptr 0 0), (3, .own 1 2), (4, .d (.int .i64 j))], [(0, rqB s), (1, .row 2 (((s.p.take j).map ivP).map ivD))]⟩
set_option maxRecDepth 100000 in
set_option maxHeartbeats 1000000 in
theorem r23 (s : Rq) (hb : Rb s) (j : Nat) (x : Pt) (hn : s.p[j]? = some x) (hw : IntKind.i64.wrap (pEnd x) = pEnd x) (k1 : FnOK Try.prog 18 [.d (rqD s)] [] (.d (.int .i64 0)) []) : Runs Try.prog 0 (loopN Try.prog 23 0) (St.as (I23 s j) 42) (.normal) (St.as (I23 s (j+1)) 42) := by
  refine round_wp (p := (D.bool (decide ((↑j : Int) < (↑(List.map ptD s.p).length : Int))) = D.bool true) ∧ ((D.bool true = D.bool true) ∧ ((FnOK Try.prog (18 : Nat) [AV.d (D.agg [D.int IntKind.i64 s.b, D.str s.r, D.sl (List.map ptD s.p)])] [] (AV.d (D.int IntKind.i64 (0 : Int))) []) ∧ (((0 : Int) ≤ (↑j : Int)) ∧ (((List.map ptD s.p)[(↑j : Int).toNat]? = some (D.agg [D.int IntKind.i64 x.a, D.str x.d])) ∧ (((0 : Int) ≤ (↑j : Int)) ∧ (((List.map ptD s.p)[(↑j : Int).toNat]? = some (D.agg [D.int IntKind.i64 x.a, D.str x.d])) ∧ (((0 : Int) ≤ (↑j : Int)) ∧ (((List.map ptD s.p)[(↑j : Int).toNat]? = some (D.agg [D.int IntKind.i64 x.a, D.str x.d])) ∧ ((((List.map ivD (List.map ivP (List.take j s.p))).length + [D.agg (List.take (2 : Nat) [D.int IntKind.i64 x.a, D.int IntKind.i64 (IntKind.i64.wrap (x.a + (↑x.d.length : Int)))])].length) * (16 : Nat) ≤ (140737488355328 : Nat)) ∧ ((∀ (e : D), e ∈ chunk (2 : Nat) (1 : Nat) [D.int IntKind.i64 x.a, D.int IntKind.i64 (IntKind.i64.wrap (x.a + (↑x.d.length : Int)))] → e.cells.length = (2 : Nat)) ∧ ((AV.ptr (0 : Nat) (0 : Nat) = AV.ptr (0 : Nat) (0 : Nat)) ∧ ((AV.own (1320 : Nat) (2 : Nat) = AV.own (1320 : Nat) (2 : Nat)) ∧ ((AV.d (D.int IntKind.i64 (IntKind.i64.wrap ((↑j : Int) + (1 : Int)))) = AV.d (D.int IntKind.i64 (↑(j + (1 : Nat)) : Int))) ∧ ((Ob.box [AV.d (D.int IntKind.i64 s.b), AV.d (D.str s.r), AV.d (D.sl (List.map ptD s.p))] = Ob.box [AV.d (D.int IntKind.i64 s.b), AV.d (D.str s.r), AV.d (D.sl (List.map ptD s.p))]) ∧ ((Ob.row (2 : Nat) (List.map ivD (List.map ivP (List.take j s.p)) ++ [D.agg (List.take (2 : Nat) [D.int IntKind.i64 x.a, D.int IntKind.i64 (IntKind.i64.wrap (x.a + (↑x.d.length : Int)))])]) = Ob.row (2 : Nat) (List.map ivD (List.map ivP (List.take (j + (1 : Nat)) s.p)))) ∧ (True))))))))))))))))) (h := {els := [(19, .el (ptD x)), (25, .el (ptD x)), (31, .el (ptD x))], G := [(18, gAns (.d (.int .i64 0)))], H := [(3, [(4, .val (.bool true))])]}) (subs := []) (ws := []) (ρ := []) (by kernel_rfl) ?_
  have hj := get_lt hn
  have hp := hb.p
  have hi := inc_i64 (j := j) (by omega)
  have hl1 : ((s.p.take j).map ivP).length = j := by simp; omega
  have hw3 : IntKind.i64.wrap (x.a + x.d.length) = pEnd x := hw
  rw [hi, ivp_take hn, List.map_append]
  simp only [List.length_map, hw3]
  repeat' (first | with_reducible exact True.intro | with_reducible refine And.intro ?_ ?_ | with_reducible refine condP_dec (fun _ => ?_) (fun _ => ?_) | with_reducible refine condP_eq (fun _ => ?_) (fun _ => ?_) | with_reducible refine condP_ne (fun _ => ?_) (fun _ => ?_) | with_reducible refine condP_not (condP_dec (fun _ => ?_) (fun _ => ?_)) | with_reducible refine condP_not (condP_eq (fun _ => ?_) (fun _ => ?_)) | with_reducible refine condP_not (condP_intro (fun _ => ?_) (fun _ => ?_)) | with_reducible refine condP_intro (fun _ => ?_) (fun _ => ?_))
  all_goals first | exact k1 | exact el_map hn rfl | rfl | omega | exact dyes (by omega) | (simp; omega) | (simp [chunk, ivD, D.cells]; done) | skip

set_option maxRecDepth 100000 in
set_option maxHeartbeats 1000000 in
theorem q23 (s : Rq) : Runs Try.prog 0 (loopN Try.prog 23 0) (St.as (I23 s s.p.length) 42) (.exit 0) (St.as (I23 s s.p.length) 42) := by
  refine round_wp (p := (D.bool (decide ((↑s.p.length : Int) < (↑(List.map ptD s.p).length : Int))) = D.bool false) ∧ ((D.bool false = D.bool false) ∧ ((AV.ptr (0 : Nat) (0 : Nat) = AV.ptr (0 : Nat) (0 : Nat)) ∧ ((AV.own (1 : Nat) (2 : Nat) = AV.own (1 : Nat) (2 : Nat)) ∧ ((AV.d (D.int IntKind.i64 (↑s.p.length : Int)) = AV.d (D.int IntKind.i64 (↑s.p.length : Int))) ∧ ((Ob.box [AV.d (D.int IntKind.i64 s.b), AV.d (D.str s.r), AV.d (D.sl (List.map ptD s.p))] = Ob.box [AV.d (D.int IntKind.i64 s.b), AV.d (D.str s.r), AV.d (D.sl (List.map ptD s.p))]) ∧ ((Ob.row (2 : Nat) (List.map ivD (List.map ivP (List.take s.p.length s.p))) = Ob.row (2 : Nat) (List.map ivD (List.map ivP (List.take s.p.length s.p)))) ∧ (True)))))))) (h := {H := [(3, [(4, .val (.bool false))])]}) (subs := []) (ws := []) (ρ := []) (by kernel_rfl) ?_
  simp only [List.length_map]
  repeat' (first | with_reducible exact True.intro | with_reducible refine And.intro ?_ ?_ | with_reducible refine condP_dec (fun _ => ?_) (fun _ => ?_) | with_reducible refine condP_eq (fun _ => ?_) (fun _ => ?_) | with_reducible refine condP_ne (fun _ => ?_) (fun _ => ?_) | with_reducible refine condP_not (condP_dec (fun _ => ?_) (fun _ => ?_)) | with_reducible refine condP_not (condP_eq (fun _ => ?_) (fun _ => ?_)) | with_reducible refine condP_not (condP_intro (fun _ => ?_) (fun _ => ?_)) | with_reducible refine condP_intro (fun _ => ?_) (fun _ => ?_))
  all_goals first | rfl | exact dno (by omega) | omega | skip

set_option maxRecDepth 100000 in
set_option maxHeartbeats 1000000 in
theorem e23 (s : Rq) (e : Int) (h1 : e ≠ 0) (h : 0 < s.p.length) (k1 : FnOK Try.prog 18 [.d (rqD s)] [] (.d (.int .i64 e)) []) : Runs Try.prog 0 (loopN Try.prog 23 0) (St.as (I23 s 0) 42) (.exit 0) (St.as (I23 s 0) 42) := by
  refine round_wp (p := (D.bool (decide ((0 : Int) < (↑(List.map ptD s.p).length : Int))) = D.bool true) ∧ ((D.bool true = D.bool true) ∧ ((FnOK Try.prog (18 : Nat) [AV.d (D.agg [D.int IntKind.i64 s.b, D.str s.r, D.sl (List.map ptD s.p)])] [] (AV.d (D.int IntKind.i64 e)) []) ∧ ((D.bool (e == (0 : Int)) = D.bool false) ∧ ((AV.ptr (0 : Nat) (0 : Nat) = AV.ptr (0 : Nat) (0 : Nat)) ∧ ((AV.own (1 : Nat) (2 : Nat) = AV.own (1 : Nat) (2 : Nat)) ∧ ((AV.d (D.int IntKind.i64 (0 : Int)) = AV.d (D.int IntKind.i64 (0 : Int))) ∧ ((Ob.box [AV.d (D.int IntKind.i64 s.b), AV.d (D.str s.r), AV.d (D.sl (List.map ptD s.p))] = Ob.box [AV.d (D.int IntKind.i64 s.b), AV.d (D.str s.r), AV.d (D.sl (List.map ptD s.p))]) ∧ ((Ob.row (2 : Nat) [] = Ob.row (2 : Nat) []) ∧ (True)))))))))) (h := {G := [(18, gAns (.d (.int .i64 e)))], H := [(3, [(4, .val (.bool true)), (8, .val (.bool false))])]}) (subs := []) (ws := []) (ρ := []) (by kernel_rfl) ?_
  simp only [List.length_map]
  repeat' (first | with_reducible exact True.intro | with_reducible refine And.intro ?_ ?_ | with_reducible refine condP_dec (fun _ => ?_) (fun _ => ?_) | with_reducible refine condP_eq (fun _ => ?_) (fun _ => ?_) | with_reducible refine condP_ne (fun _ => ?_) (fun _ => ?_) | with_reducible refine condP_not (condP_dec (fun _ => ?_) (fun _ => ?_)) | with_reducible refine condP_not (condP_eq (fun _ => ?_) (fun _ => ?_)) | with_reducible refine condP_not (condP_intro (fun _ => ?_) (fun _ => ?_)) | with_reducible refine condP_intro (fun _ => ?_) (fun _ => ?_))
  all_goals first | exact k1 | rfl | exact dyes (by omega) | exact dno (by omega) | (refine congrArg D.bool ?_; simp_all; done) | omega | skip

set_option maxRecDepth 100000 in
set_option maxHeartbeats 1000000 in
theorem came23' (s : Rq) (j : Nat) (hL : Loops Try.prog 0 (loopN Try.prog 23 0) ((I23 s 0).as 42) (.exit 0) ((I23 s j).as 42)) : FnOK Try.prog 23 ([.d (rqD s)]) ([]) (.d (.sl (((s.p.take j).map ivP).map ivD))) ([]) := by
  refine fnOK_wp (p := (AV.ptr (1008 : Nat) (0 : Nat) = AV.ptr (1008 : Nat) (0 : Nat)) ∧ ((AV.own (901 : Nat) (2 : Nat) = AV.own (901 : Nat) (2 : Nat)) ∧ ((AV.d (D.int IntKind.i64 (0 : Int)) = AV.d (D.int IntKind.i64 (0 : Int))) ∧ ((Ob.box [AV.d (D.int IntKind.i64 s.b), AV.d (D.str s.r), AV.d (D.sl (List.map ptD s.p))] = Ob.box [AV.d (D.int IntKind.i64 s.b), AV.d (D.str s.r), AV.d (D.sl (List.map ptD s.p))]) ∧ ((Ob.row (2 : Nat) [] = Ob.row (2 : Nat) []) ∧ ((LoopsS Try.prog (0 : Nat) (loopN Try.prog (23 : Nat) (0 : Nat)) (I23 s (0 : Nat)) (Exit.exit (0 : Nat)) (I23 s j) (42 : Nat)) ∧ ((AV.d (D.sl (List.map ivD (List.map ivP (List.take j s.p)))) = AV.d (D.sl (List.map ivD (List.map ivP (List.take j s.p))))) ∧ (True)))))))) (h := {}) (subs := [⟨[], [], I23 s 0, .exit 0, I23 s j⟩]) (ws := []) (ρ := []) (by kernel_rfl) ?_
  repeat' (first | with_reducible exact True.intro | with_reducible refine And.intro ?_ ?_ | with_reducible refine condP_dec (fun _ => ?_) (fun _ => ?_) | with_reducible refine condP_eq (fun _ => ?_) (fun _ => ?_) | with_reducible refine condP_ne (fun _ => ?_) (fun _ => ?_) | with_reducible refine condP_not (condP_dec (fun _ => ?_) (fun _ => ?_)) | with_reducible refine condP_not (condP_eq (fun _ => ?_) (fun _ => ?_)) | with_reducible refine condP_not (condP_intro (fun _ => ?_) (fun _ => ?_)) | with_reducible refine condP_intro (fun _ => ?_) (fun _ => ?_))
  all_goals first | exact hL | rfl | skip

theorem came23 (s : Rq) (hb : Rb s) : FnOK Try.prog 23 [.d (rqD s)] [] (.d (.sl ((rCame s).map ivD))) [] := by
  have k := chk18 s hb
  unfold rCame
  by_cases he : rChk s = 0
  · rw [he] at k
    rw [if_pos he]
    have hz := chk_zero he
    have hm := rBad_mem (rLim_le s) hz.1.1 hz.2
    have := came23' s _ (loops_n (I := fun j => (I23 s j).as 42) (by simp) s.p.length 0 (by omega) (fun j _ hj => r23 s hb j _ (get_of hj) (hm _ (List.getElem_mem hj)).2 k) (q23 s))
    rw [List.take_length] at this
    exact this
  · rw [if_neg he]
    by_cases h0 : s.p.length = 0
    · have hq := q23 s
      rw [h0] at hq
      exact came23' s 0 (.out hq (by simp))
    · exact came23' s 0 (.out (e23 s _ he (by omega) k) (by simp))
theorem ivD_sz (l : List Iv) : ∀ e ∈ l.map ivD, e.cells.length = 2 := by
  intro e he
  obtain ⟨x, -, rfl⟩ := List.mem_map.1 he
  rfl
set_option maxRecDepth 100000 in
set_option maxHeartbeats 1000000 in
theorem blk25' (s : Rq) (most : Int) (l : List Iv) (hl : l.length < 1000000000) (k1 : FnOK Try.prog 23 [.d (rqD s)] [] (.d (.sl (l.map ivD))) []) : FnOK Try.prog 25 ([.d (rqD s), .d (.int .i64 most)]) ([]) (.d (.sl ((l.take most.toNat).map ivD))) ([]) := by
  refine fnOK_wp (p := (FnOK Try.prog (23 : Nat) [AV.d (D.agg [D.int IntKind.i64 s.b, D.str s.r, D.sl (List.map ptD s.p)])] [] (AV.d (D.sl (List.map ivD l))) []) ∧ (((0 : Int) ≤ (0 : Int) ∧ (0 : Int) ≤ max (0 : Int) (min most (↑(List.map ivD l).length : Int)) ∧ max (0 : Int) (min most (↑(List.map ivD l).length : Int)) ≤ (↑(List.map ivD l).length : Int)) ∧ ((∀ (e : D), e ∈ List.map ivD l → e.cells.length = (2 : Nat)) ∧ ((AV.d (D.sl (List.drop (0 : Nat) (List.take (max (0 : Int) (min most (↑(List.map ivD l).length : Int))).toNat (List.map ivD l)))) = AV.d (D.sl (List.map ivD (List.take most.toNat l)))) ∧ (True))))) (h := {G := [(23, gAns (.d (.sl (l.map ivD))))]}) (subs := []) (ws := []) (ρ := []) (by kernel_rfl) ?_
  simp only [List.length_map]
  have e : (l.map ivD).take (max 0 (min most (l.length : Int))).toNat = (l.take most.toNat).map ivD := by
    rw [← List.map_take]
    by_cases h : most ≤ l.length
    · rw [show (max 0 (min most (l.length : Int))).toNat = most.toNat by omega]
    · rw [List.take_of_length_le (by omega), List.take_of_length_le (by omega)]
  repeat' (first | with_reducible exact True.intro | with_reducible refine And.intro ?_ ?_ | with_reducible refine condP_dec (fun _ => ?_) (fun _ => ?_) | with_reducible refine condP_eq (fun _ => ?_) (fun _ => ?_) | with_reducible refine condP_ne (fun _ => ?_) (fun _ => ?_) | with_reducible refine condP_not (condP_dec (fun _ => ?_) (fun _ => ?_)) | with_reducible refine condP_not (condP_eq (fun _ => ?_) (fun _ => ?_)) | with_reducible refine condP_not (condP_intro (fun _ => ?_) (fun _ => ?_)) | with_reducible refine condP_intro (fun _ => ?_) (fun _ => ?_))
  all_goals first | exact k1 | exact ivD_sz l | rfl | omega | (simp; omega) | (simp [e]; done) | (rw [List.drop_zero, e]) | skip

theorem blk25 (s : Rq) (hb : Rb s) (most : Int) : FnOK Try.prog 25 [.d (rqD s), .d (.int .i64 most)] [] (.d (.sl ((rBlk s most).map ivD))) [] := by
  have h := blk25' s most (rCame s) (by have := hb.p; unfold rCame; split <;> simp <;> omega) (came23 s hb)
  have e : (rCame s).take most.toNat = rBlk s most := by
    unfold rCame rBlk
    split <;> simp
  rw [e] at h
  exact h
end Go.Proofs.Ytmnglolholdmaaa
