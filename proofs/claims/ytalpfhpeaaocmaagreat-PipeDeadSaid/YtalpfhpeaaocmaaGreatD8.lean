/-
Part 8 of 8 of the proof of pipeDead: the lemmas that it needs, of the texts S7, S8, S9, S10, S11, RPipeDead. No condition but those that each lemma names.
-/
import Derived.Test.YtalpfhpeaaocmaaGreatD7
import Derived.Test.YtalpfhpeaaocmaaGreatRows
import Derived.ProofKit
import Derived.Below
import Derived.Test.YtalpfhpeaaocmaaGreatD1
import Derived.Test.YtalpfhpeaaocmaaGreatD2
import Derived.Test.YtalpfhpeaaocmaaGreatD3
import Derived.Test.YtalpfhpeaaocmaaGreatD4
import Derived.Test.YtalpfhpeaaocmaaGreatD5
import Derived.Test.YtalpfhpeaaocmaaGreatD6

section
set_option linter.unusedSimpArgs false
set_option linter.unusedVariables false
namespace Go.Proofs.YtalpfhpeaaocmaaGreat
open Sx Go.RowKit
def I6 (l : List De) (n : Int) (j : Nat) : St := ⟨[(0, .d (.sl (l.map deD))), (5, .d (.int .i64 j))], []⟩
set_option maxRecDepth 100000 in
set_option maxHeartbeats 1000000 in
theorem r6 (l : List De) (hl : l.length < 1000000) (n : Int) (j : Nat) (d : De) (hn : l[j]? = some d) (h : ¬(d.t.length : Int) > 200) : Runs Tryz.prog 0 (loopN Tryz.prog 6 0) (St.as (I6 l n j) 23) (.normal) (St.as (I6 l n (j+1)) 23) := by
  refine round_wp (p := condP (decide ((↑j : Int) < (↑(List.map deD l).length : Int))) (((0 : Int) ≤ (↑j : Int)) ∧ ((List.map deD l)[(↑j : Int).toNat]? = some (D.agg [D.int .u8 d.k, D.int .u8 d.n, D.str d.t])) ∧ (D.bool (decide ((↑d.t.length : Int) > (200 : Int))) = D.bool false) ∧ (rf (vL (List.map deD l))) ∧ (vI (IntKind.i64.wrap ((↑j : Int) + (1 : Int))) = vI (↑(j + 1) : Int)) ∧ True) (False)) (h := {els := [(16, .el (deD d))], H := [(6, [(6, .val (.bool false))])]}) (subs := []) (ws := []) (ρ := []) (by kernel_rfl) ?_
  have hj := get_lt hn
  have hi := inc_i64 (j := j) (by omega)
  try rw [hi]
  simp only [List.length_map]
  refine condP_t (by rw [decide_eq_true_eq]; omega) ?_
  repeat' (with_reducible first | exact True.intro | apply And.intro | (first | apply zA | apply zB | apply zC | apply zD | apply zE | apply zF | apply zG) <;> intro)
  all_goals first | exact el_map hn rfl | rfl | omega | exact dyes (by omega) | exact dno (by omega) | (exfalso; omega) | skip
set_option maxRecDepth 100000 in
set_option maxHeartbeats 1000000 in
theorem e6 (l : List De) (hl : l.length < 1000000) (n : Int) (j : Nat) (d : De) (hn : l[j]? = some d) (h : (d.t.length : Int) > 200) : Runs Tryz.prog 0 (loopN Tryz.prog 6 0) (St.as (I6 l n j) 23) (.ret) (St.as (⟨[(4, .d (.bool false))], []⟩) 23) := by
  refine round_wp (p := condP (decide ((↑j : Int) < (↑(List.map deD l).length : Int))) (((0 : Int) ≤ (↑j : Int)) ∧ ((List.map deD l)[(↑j : Int).toNat]? = some (D.agg [D.int .u8 d.k, D.int .u8 d.n, D.str d.t])) ∧ (D.bool (decide ((↑d.t.length : Int) > (200 : Int))) = D.bool true) ∧ (rf (vB false)) ∧ True) (False)) (h := {els := [(16, .el (deD d))], H := [(6, [(6, .val (.bool true))])]}) (subs := []) (ws := []) (ρ := []) (by kernel_rfl) ?_
  have hj := get_lt hn
  have hi := inc_i64 (j := j) (by omega)
  try rw [hi]
  simp only [List.length_map]
  refine condP_t (by rw [decide_eq_true_eq]; omega) ?_
  repeat' (with_reducible first | exact True.intro | apply And.intro | (first | apply zA | apply zB | apply zC | apply zD | apply zE | apply zF | apply zG) <;> intro)
  all_goals first | exact el_map hn rfl | rfl | omega | exact dyes (by omega) | exact dno (by omega) | (exfalso; omega) | skip
set_option maxRecDepth 100000 in
set_option maxHeartbeats 1000000 in
theorem q6 (l : List De) (n : Int) : Runs Tryz.prog 0 (loopN Tryz.prog 6 0) (St.as (I6 l n l.length) 23) (.exit 0) (St.as (I6 l n l.length) 23) := by
  refine round_wp (p := condP (decide ((↑l.length : Int) < (↑(List.map deD l).length : Int))) (False) ((rf (vL (List.map deD l))) ∧ (rf (vI (↑l.length : Int))) ∧ True)) (h := {}) (subs := []) (ws := []) (ρ := []) (by kernel_rfl) ?_
  repeat' (with_reducible first | exact True.intro | apply And.intro | (first | apply zA | apply zB | apply zC | apply zD | apply zE | apply zF | apply zG) <;> intro)
  all_goals (try simp only [List.length_map, AV.d.injEq, D.int.injEq, D.bool.injEq, D.str.injEq, D.sl.injEq, true_and, and_true, decide_eq_true_eq, decide_eq_false_iff_not, decide_eq_decide])
  all_goals (try simp only [List.length_map] at *)
  all_goals first | rfl | omega
set_option maxRecDepth 100000 in
set_option maxHeartbeats 1000000 in
theorem few6a (l : List De) (n : Int) (h : (l.length : Int) > n) : FnOK Tryz.prog 6 ([.d (.sl (l.map deD)), .d (.int .i64 n)]) ([]) (.d (.bool false)) ([]) := by
  refine fnOK_wp (p := (D.bool (decide ((↑(List.map deD l).length : Int) > n)) = D.bool true) ∧ (rf (vB false)) ∧ True) (h := {H := [(1, [(3, .val (.bool true))])]}) (subs := []) (ws := []) (ρ := []) (by kernel_rfl) ?_
  simp only [List.length_map]
  repeat' (with_reducible first | exact True.intro | apply And.intro | (first | apply zA | apply zB | apply zC | apply zD | apply zE | apply zF | apply zG) <;> intro)
  all_goals first | rfl | exact dyes h | skip
set_option maxRecDepth 100000 in
set_option maxHeartbeats 1000000 in
theorem few6y (l : List De) (n : Int) (h : ¬(l.length : Int) > n) (hL : Loops Tryz.prog 0 (loopN Tryz.prog 6 0) ((I6 l n 0).as 23) (.exit 0) ((I6 l n l.length).as 23)) : FnOK Tryz.prog 6 ([.d (.sl (l.map deD)), .d (.int .i64 n)]) ([]) (.d (.bool true)) ([]) := by
  refine fnOK_wp (p := (D.bool (decide ((↑(List.map deD l).length : Int) > n)) = D.bool false) ∧ (rf (vL (List.map deD l))) ∧ (rf (vI 0)) ∧ (LoopsS Tryz.prog 0 (loopN Tryz.prog 6 0) (I6 l n 0) (Exit.exit 0) (I6 l n l.length) 23) ∧ (rf (vB true)) ∧ True) (h := {H := [(1, [(3, .val (.bool false))])]}) (subs := [⟨[], [], I6 l n 0, .exit 0, I6 l n l.length⟩]) (ws := []) (ρ := []) (by kernel_rfl) ?_
  simp only [List.length_map]
  repeat' (with_reducible first | exact True.intro | apply And.intro | (first | apply zA | apply zB | apply zC | apply zD | apply zE | apply zF | apply zG) <;> intro)
  all_goals first | rfl | exact dno h | exact hL | skip
set_option maxRecDepth 100000 in
set_option maxHeartbeats 1000000 in
theorem few6n (l : List De) (n : Int) (h : ¬(l.length : Int) > n) (hL : Loops Tryz.prog 0 (loopN Tryz.prog 6 0) ((I6 l n 0).as 23) .ret ((⟨[(4, .d (.bool false))], []⟩ : St).as 23)) : FnOK Tryz.prog 6 ([.d (.sl (l.map deD)), .d (.int .i64 n)]) ([]) (.d (.bool false)) ([]) := by
  refine fnOK_wp (p := (D.bool (decide ((↑(List.map deD l).length : Int) > n)) = D.bool false) ∧ (rf (vL (List.map deD l))) ∧ (rf (vI 0)) ∧ (LoopsS Tryz.prog 0 (loopN Tryz.prog 6 0) (I6 l n 0) Exit.ret (St.mk [(4, vB false)] []) 23) ∧ (rf (vB false)) ∧ True) (h := {H := [(1, [(3, .val (.bool false))])]}) (subs := [⟨[], [], I6 l n 0, .ret, ⟨[(4, .d (.bool false))], []⟩⟩]) (ws := []) (ρ := []) (by kernel_rfl) ?_
  simp only [List.length_map]
  repeat' (with_reducible first | exact True.intro | apply And.intro | (first | apply zA | apply zB | apply zC | apply zD | apply zE | apply zF | apply zG) <;> intro)
  all_goals first | rfl | exact dno h | exact hL | skip
def fewB (l : List De) (n : Nat) : Bool := decide (l.length ≤ n) && l.all fun d => decide (d.t.length ≤ 200)
theorem few6 (l : List De) (n : Nat) (hn : n < 1000) : FnOK Tryz.prog 6 [.d (.sl (l.map deD)), .d (.int .i64 n)] [] (.d (.bool (fewB l n))) [] := by
  by_cases h : (l.length : Int) > n
  · have e : fewB l n = false := by unfold fewB; rw [decide_eq_false (by omega)]; rfl
    rw [e]; exact few6a l n h
  · have hl : l.length < 1000000 := by omega
    rcases all_or (fun d : De => d.t.length ≤ 200) l with g | ⟨m, d, g1, g2, g3⟩
    · have e : fewB l n = true := by
        unfold fewB; rw [decide_eq_true (by omega), Bool.true_and, List.all_eq_true]
        intro d hd; exact decide_eq_true (g d hd)
      rw [e]
      exact few6y l n h (loops_n (I := fun j => (I6 l n j).as 23) (by simp) l.length 0 (by omega) (fun j _ hj => r6 l hl n j _ (get_of hj) (by have := g _ (List.getElem_mem hj); omega)) (q6 l n))
    · have hm := get_lt g1
      have e : fewB l n = false := by
        unfold fewB
        rw [Bool.and_eq_false_iff]
        refine .inr (List.all_eq_false.2 ⟨d, get_mem g1, by simpa using g2⟩)
      rw [e]
      exact few6n l n h (loops_n (I := fun j => (I6 l n j).as 23) (by simp) m 0 (by omega) (fun j _ hj => r6 l hl n j (l[j]'(by omega)) (get_of _) (by have := g3 j (l[j]'(by omega)) hj (get_of (by omega)); omega)) (e6 l hl n m d g1 (by omega)))
def t0 (a b : Int) : Tk := ⟨pOpen (pNew 2 9 a), pNew 2 9 b, [], [], [], [], [], [], 0⟩
theorem new_ok (m : Int) : C13.nChk (C13.nNew 2 9 m) = 0 := rfl
set_option maxRecDepth 100000 in
set_option maxHeartbeats 1000000 in
theorem begun8 (a b : Int) : FnOK Tryz.prog 8 ([.d (.agg [.int .u32 a, .int .u32 b])]) ([]) (.tup [.ptr 0 0, .d (.bool true)]) (tkO (t0 a b)) := by
  refine fnOK_wp (p := ((0 : Int) ≤ (0 : Int) ∧ (0 : Int) < (↑2 : Int)) ∧ (FnOK Tryz.prog 22 [vI 2, vI 9, vW a] [] (AV.tup [AV.d (.agg [D.int .u8 (pNew (2 : Int) (9 : Int) a).sh.g, D.int .i64 (pNew (2 : Int) (9 : Int) a).sh.p, D.int .i64 (pNew (2 : Int) (9 : Int) a).sh.e, D.int .u32 (pNew (2 : Int) (9 : Int) a).sh.m, D.int .u32 (pNew (2 : Int) (9 : Int) a).sh.h, D.int .i64 (pNew (2 : Int) (9 : Int) a).sq.b, D.str (pNew (2 : Int) (9 : Int) a).sq.d, D.int .i64 (pNew (2 : Int) (9 : Int) a).sq.n, D.sl [], D.sl [], D.int .i64 (pNew (2 : Int) (9 : Int) a).rq.b, D.str (pNew (2 : Int) (9 : Int) a).rq.r, D.sl [], D.int .i64 (pNew (2 : Int) (9 : Int) a).rt.s, D.int .i64 (pNew (2 : Int) (9 : Int) a).rt.v, D.bool false, D.int .i64 (pNew (2 : Int) (9 : Int) a).rt.h, D.int .i64 (pNew (2 : Int) (9 : Int) a).wn.w, D.int .i64 (pNew (2 : Int) (9 : Int) a).wn.t, D.int .i64 (pNew (2 : Int) (9 : Int) a).wn.p, D.int .i64 (pNew (2 : Int) (9 : Int) a).li, D.int .i64 (pNew (2 : Int) (9 : Int) a).no, D.int .i64 (pNew (2 : Int) (9 : Int) a).he, D.int .i64 (pNew (2 : Int) (9 : Int) a).nx, D.int .i64 (pNew (2 : Int) (9 : Int) a).pr, D.bool false]), vI 0]) []) ∧ ((0 : Int) ≤ (1 : Int) ∧ (1 : Int) < (↑2 : Int)) ∧ (FnOK Tryz.prog 22 [vI 2, vI 9, vW b] [] (AV.tup [AV.d (.agg [D.int .u8 (pNew (2 : Int) (9 : Int) b).sh.g, D.int .i64 (pNew (2 : Int) (9 : Int) b).sh.p, D.int .i64 (pNew (2 : Int) (9 : Int) b).sh.e, D.int .u32 (pNew (2 : Int) (9 : Int) b).sh.m, D.int .u32 (pNew (2 : Int) (9 : Int) b).sh.h, D.int .i64 (pNew (2 : Int) (9 : Int) b).sq.b, D.str (pNew (2 : Int) (9 : Int) b).sq.d, D.int .i64 (pNew (2 : Int) (9 : Int) b).sq.n, D.sl [], D.sl [], D.int .i64 (pNew (2 : Int) (9 : Int) b).rq.b, D.str (pNew (2 : Int) (9 : Int) b).rq.r, D.sl [], D.int .i64 (pNew (2 : Int) (9 : Int) b).rt.s, D.int .i64 (pNew (2 : Int) (9 : Int) b).rt.v, D.bool false, D.int .i64 (pNew (2 : Int) (9 : Int) b).rt.h, D.int .i64 (pNew (2 : Int) (9 : Int) b).wn.w, D.int .i64 (pNew (2 : Int) (9 : Int) b).wn.t, D.int .i64 (pNew (2 : Int) (9 : Int) b).wn.p, D.int .i64 (pNew (2 : Int) (9 : Int) b).li, D.int .i64 (pNew (2 : Int) (9 : Int) b).no, D.int .i64 (pNew (2 : Int) (9 : Int) b).he, D.int .i64 (pNew (2 : Int) (9 : Int) b).nx, D.int .i64 (pNew (2 : Int) (9 : Int) b).pr, D.bool false]), vI 0]) []) ∧ (FnOK Tryz.prog 23 [AV.d (.agg [D.int .u8 (pNew (2 : Int) (9 : Int) a).sh.g, D.int .i64 (pNew (2 : Int) (9 : Int) a).sh.p, D.int .i64 (pNew (2 : Int) (9 : Int) a).sh.e, D.int .u32 (pNew (2 : Int) (9 : Int) a).sh.m, D.int .u32 (pNew (2 : Int) (9 : Int) a).sh.h, D.int .i64 (pNew (2 : Int) (9 : Int) a).sq.b, D.str (pNew (2 : Int) (9 : Int) a).sq.d, D.int .i64 (pNew (2 : Int) (9 : Int) a).sq.n, D.sl [], D.sl [], D.int .i64 (pNew (2 : Int) (9 : Int) a).rq.b, D.str (pNew (2 : Int) (9 : Int) a).rq.r, D.sl [], D.int .i64 (pNew (2 : Int) (9 : Int) a).rt.s, D.int .i64 (pNew (2 : Int) (9 : Int) a).rt.v, D.bool false, D.int .i64 (pNew (2 : Int) (9 : Int) a).rt.h, D.int .i64 (pNew (2 : Int) (9 : Int) a).wn.w, D.int .i64 (pNew (2 : Int) (9 : Int) a).wn.t, D.int .i64 (pNew (2 : Int) (9 : Int) a).wn.p, D.int .i64 (pNew (2 : Int) (9 : Int) a).li, D.int .i64 (pNew (2 : Int) (9 : Int) a).no, D.int .i64 (pNew (2 : Int) (9 : Int) a).he, D.int .i64 (pNew (2 : Int) (9 : Int) a).nx, D.int .i64 (pNew (2 : Int) (9 : Int) a).pr, D.bool false])] [] (AV.d (.agg [D.int .u8 (pOpen (pNew (2 : Int) (9 : Int) a)).sh.g, D.int .i64 (pOpen (pNew (2 : Int) (9 : Int) a)).sh.p, D.int .i64 (pOpen (pNew (2 : Int) (9 : Int) a)).sh.e, D.int .u32 (pOpen (pNew (2 : Int) (9 : Int) a)).sh.m, D.int .u32 (pOpen (pNew (2 : Int) (9 : Int) a)).sh.h, D.int .i64 (pOpen (pNew (2 : Int) (9 : Int) a)).sq.b, D.str (pOpen (pNew (2 : Int) (9 : Int) a)).sq.d, D.int .i64 (pOpen (pNew (2 : Int) (9 : Int) a)).sq.n, D.sl [], D.sl [], D.int .i64 (pOpen (pNew (2 : Int) (9 : Int) a)).rq.b, D.str (pOpen (pNew (2 : Int) (9 : Int) a)).rq.r, D.sl [], D.int .i64 (pOpen (pNew (2 : Int) (9 : Int) a)).rt.s, D.int .i64 (pOpen (pNew (2 : Int) (9 : Int) a)).rt.v, D.bool false, D.int .i64 (pOpen (pNew (2 : Int) (9 : Int) a)).rt.h, D.int .i64 (pOpen (pNew (2 : Int) (9 : Int) a)).wn.w, D.int .i64 (pOpen (pNew (2 : Int) (9 : Int) a)).wn.t, D.int .i64 (pOpen (pNew (2 : Int) (9 : Int) a)).wn.p, D.int .i64 (pOpen (pNew (2 : Int) (9 : Int) a)).li, D.int .i64 (pOpen (pNew (2 : Int) (9 : Int) a)).no, D.int .i64 (pOpen (pNew (2 : Int) (9 : Int) a)).he, D.int .i64 (pOpen (pNew (2 : Int) (9 : Int) a)).nx, D.int .i64 (pOpen (pNew (2 : Int) (9 : Int) a)).pr, D.bool false])) []) ∧ ((0 : Int) ≤ (0 : Int) ∧ (0 : Int) < (↑2 : Int)) ∧ ((0 : Int) ≤ (1 : Int) ∧ (1 : Int) < (↑2 : Int)) ∧ (rf (D.bool true)) ∧ (rf (D.bool true)) ∧ (rf (D.bool true)) ∧ (rf (AV.tup [AV.ptr 1176 0, vB true])) ∧ (Ob.box [vU (pOpen (pNew (2 : Int) (9 : Int) a)).sh.g, vI (pOpen (pNew (2 : Int) (9 : Int) a)).sh.p, vI (pOpen (pNew (2 : Int) (9 : Int) a)).sh.e, vW (pOpen (pNew (2 : Int) (9 : Int) a)).sh.m, vW (pOpen (pNew (2 : Int) (9 : Int) a)).sh.h, vI (pOpen (pNew (2 : Int) (9 : Int) a)).sq.b, vS (pOpen (pNew (2 : Int) (9 : Int) a)).sq.d, vI (pOpen (pNew (2 : Int) (9 : Int) a)).sq.n, vL [], vL [], vI (pOpen (pNew (2 : Int) (9 : Int) a)).rq.b, vS (pOpen (pNew (2 : Int) (9 : Int) a)).rq.r, vL [], vI (pOpen (pNew (2 : Int) (9 : Int) a)).rt.s, vI (pOpen (pNew (2 : Int) (9 : Int) a)).rt.v, vB false, vI (pOpen (pNew (2 : Int) (9 : Int) a)).rt.h, vI (pOpen (pNew (2 : Int) (9 : Int) a)).wn.w, vI (pOpen (pNew (2 : Int) (9 : Int) a)).wn.t, vI (pOpen (pNew (2 : Int) (9 : Int) a)).wn.p, vI (pOpen (pNew (2 : Int) (9 : Int) a)).li, vI (pOpen (pNew (2 : Int) (9 : Int) a)).no, vI (pOpen (pNew (2 : Int) (9 : Int) a)).he, vI (pOpen (pNew (2 : Int) (9 : Int) a)).nx, vI (pOpen (pNew (2 : Int) (9 : Int) a)).pr, vB false, vU (pNew (2 : Int) (9 : Int) b).sh.g, vI (pNew (2 : Int) (9 : Int) b).sh.p, vI (pNew (2 : Int) (9 : Int) b).sh.e, vW (pNew (2 : Int) (9 : Int) b).sh.m, vW (pNew (2 : Int) (9 : Int) b).sh.h, vI (pNew (2 : Int) (9 : Int) b).sq.b, vS (pNew (2 : Int) (9 : Int) b).sq.d, vI (pNew (2 : Int) (9 : Int) b).sq.n, vL [], vL [], vI (pNew (2 : Int) (9 : Int) b).rq.b, vS (pNew (2 : Int) (9 : Int) b).rq.r, vL [], vI (pNew (2 : Int) (9 : Int) b).rt.s, vI (pNew (2 : Int) (9 : Int) b).rt.v, vB false, vI (pNew (2 : Int) (9 : Int) b).rt.h, vI (pNew (2 : Int) (9 : Int) b).wn.w, vI (pNew (2 : Int) (9 : Int) b).wn.t, vI (pNew (2 : Int) (9 : Int) b).wn.p, vI (pNew (2 : Int) (9 : Int) b).li, vI (pNew (2 : Int) (9 : Int) b).no, vI (pNew (2 : Int) (9 : Int) b).he, vI (pNew (2 : Int) (9 : Int) b).nx, vI (pNew (2 : Int) (9 : Int) b).pr, vB false, AV.own 500 8, AV.own 501 8, vS [], vS [], vS [], vS [], vI 0] = Ob.box [vU (t0 a b).e0.sh.g, vI (t0 a b).e0.sh.p, vI (t0 a b).e0.sh.e, vW (t0 a b).e0.sh.m, vW (t0 a b).e0.sh.h, vI (t0 a b).e0.sq.b, vS (t0 a b).e0.sq.d, vI (t0 a b).e0.sq.n, vL [], vL [], vI (t0 a b).e0.rq.b, vS (t0 a b).e0.rq.r, vL [], vI (t0 a b).e0.rt.s, vI (t0 a b).e0.rt.v, vB false, vI (t0 a b).e0.rt.h, vI (t0 a b).e0.wn.w, vI (t0 a b).e0.wn.t, vI (t0 a b).e0.wn.p, vI (t0 a b).e0.li, vI (t0 a b).e0.no, vI (t0 a b).e0.he, vI (t0 a b).e0.nx, vI (t0 a b).e0.pr, vB false, vU (t0 a b).e1.sh.g, vI (t0 a b).e1.sh.p, vI (t0 a b).e1.sh.e, vW (t0 a b).e1.sh.m, vW (t0 a b).e1.sh.h, vI (t0 a b).e1.sq.b, vS (t0 a b).e1.sq.d, vI (t0 a b).e1.sq.n, vL [], vL [], vI (t0 a b).e1.rq.b, vS (t0 a b).e1.rq.r, vL [], vI (t0 a b).e1.rt.s, vI (t0 a b).e1.rt.v, vB false, vI (t0 a b).e1.rt.h, vI (t0 a b).e1.wn.w, vI (t0 a b).e1.wn.t, vI (t0 a b).e1.wn.p, vI (t0 a b).e1.li, vI (t0 a b).e1.no, vI (t0 a b).e1.he, vI (t0 a b).e1.nx, vI (t0 a b).e1.pr, vB false, AV.own 500 8, AV.own 501 8, vS (t0 a b).w0, vS (t0 a b).w1, vS (t0 a b).r0, vS (t0 a b).r1, vI (t0 a b).now]) ∧ (rf (Ob.row 8 [])) ∧ (rf (Ob.row 8 [])) ∧ True) (h := {els := [(11, .n)], H := [(1, [(2, .call [] (.tup [.d (ppD (pNew 2 9 a)), .d (.int .i64 0)]) [])]), (2, [(2, .call [] (.tup [.d (ppD (pNew 2 9 b)), .d (.int .i64 0)]) [])]), (4, [(3, .call [] (.d (ppD (pOpen (pNew 2 9 a)))) [])]), (5, [(2, .val (.bool true)), (5, .val (.bool true))])], W := [(5, [.nilcell 1176 52 500 8, .nilcell 1176 53 501 8])]}) (subs := []) (ws := []) (ρ := []) (by kernel_rfl) ?_
  have k1 := new22 2 9 a (new_ok a)
  have k2 := new22 2 9 b (new_ok b)
  have k3 := open23 (pNew 2 9 a)
  repeat' (with_reducible first | exact True.intro | apply And.intro | (first | apply zA | apply zB | apply zC | apply zD | apply zE | apply zF | apply zG) <;> intro)
  all_goals first | exact k1 | exact k2 | exact k3 | rfl | decide | skip
end Go.Proofs.YtalpfhpeaaocmaaGreat
end
section
set_option linter.unusedSimpArgs false
set_option linter.unusedVariables false
namespace Go.Proofs.YtalpfhpeaaocmaaGreat
open Sx Go.RowKit
def nth (l : List C13.Sg) (n : Int) : Option C13.Sg := l[(n.toNat % l.length)]?
def tDeed (t : Tk) (d : De) : Tk :=
  if d.k.tmod 9 = 0 then { t with e0 := (pWrite t.e0 d.t).1, w0 := t.w0 ++ d.t.take (max 0 (min (pWrite t.e0 d.t).2 d.t.length)).toNat }
  else if d.k.tmod 9 = 1 then { t with e1 := (pWrite t.e1 d.t).1, w1 := t.w1 ++ d.t.take (max 0 (min (pWrite t.e1 d.t).2 d.t.length)).toNat }
  else if d.k.tmod 9 = 2 then { t with e0 := pTick t.e0 (IntKind.i64.wrap (t.now + 1)), e1 := pTick t.e1 (IntKind.i64.wrap (t.now + 1)), now := IntKind.i64.wrap (t.now + 1) }
  else if d.k.tmod 9 = 3 then { t with e0 := (pOut t.e0).1, s0 := if (pOut t.e0).2.2 = true then t.s0 ++ [(pOut t.e0).2.1] else t.s0 }
  else if d.k.tmod 9 = 4 then { t with e1 := (pOut t.e1).1, s1 := if (pOut t.e1).2.2 = true then t.s1 ++ [(pOut t.e1).2.1] else t.s1 }
  else if d.k.tmod 9 = 5 then (match nth t.s0 d.n with | some x => { t with e1 := pOn t.e1 x } | none => t)
  else if d.k.tmod 9 = 6 then (match nth t.s1 d.n with | some x => { t with e0 := pOn t.e0 x } | none => t)
  else if d.k.tmod 9 = 7 then { t with e0 := (pRead t.e0 d.n).1, r0 := t.r0 ++ (pRead t.e0 d.n).2 }
  else { t with e1 := (pRead t.e1 d.n).1, r1 := t.r1 ++ (pRead t.e1 d.n).2 }
structure TI (m0 m1 : Int) (t : Tk) (j : Nat) : Prop where
  e0 : EndI t.e0 m0 m1 t.w0
  e1 : EndI t.e1 m1 m0 t.w1
  r0 : C12.RI t.w1 t.e0.rq t.r0
  r1 : C12.RI t.w0 t.e1.rq t.r1
  g0 : ∀ x ∈ t.s0, SegI m0 t.w0 x
  g1 : ∀ x ∈ t.s1, SegI m1 t.w1 x
  wl : t.w0.length ≤ 200 * j ∧ t.w1.length ≤ 200 * j
  sl : t.s0.length ≤ j ∧ t.s1.length ≤ j
  nw : 0 ≤ t.now ∧ t.now ≤ j
theorem nth_mem {l : List C13.Sg} {n : Int} {x : C13.Sg} (h : nth l n = some x) : x ∈ l := List.mem_of_getElem? h
theorem ri_len {w : List UInt8} {q : C12.Rq} {r : List UInt8} (h : C12.RI w q r) : r.length ≤ w.length := by
  have := congrArg List.length h.oe
  rw [List.length_take] at this
  omega
theorem ri_whole {w : List UInt8} {q : C12.Rq} {r : List UInt8} (h : C12.RI w q r) : w.take r.length = r := h.oe.symm
theorem ti_deed {m0 m1 : Int} {t : Tk} {j : Nat} (h : TI m0 m1 t j) (hj : j < 400) (d : De) (hd : d.t.length ≤ 200) : TI m0 m1 (tDeed t d) (j + 1) := by
  obtain ⟨e0, e1, r0, r1, g0, g1, wl, sl, nw⟩ := h
  have wr : IntKind.i64.wrap (t.now + 1) = t.now + 1 := by rw [IntKind.wrap_i64]; omega
  have tk : ∀ n : Int, (d.t.take (max 0 (min n (d.t.length : Int))).toNat).length ≤ 200 := fun n => by rw [List.length_take]; omega
  unfold tDeed
  split
  · obtain ⟨a, b⟩ := endI_write e0 (t := d.t) (by omega)
    have := tk (pWrite t.e0 d.t).2
    exact ⟨a, e1, by show C12.RI _ (pWrite t.e0 d.t).1.rq _; rw [b]; exact r0, r1.grow _, fun x hx => (g0 x hx).grow _, g1, by simp only [List.length_append]; omega, by show t.s0.length ≤ _ ∧ t.s1.length ≤ _; omega, by show 0 ≤ t.now ∧ t.now ≤ _; omega⟩
  · split
    · obtain ⟨a, b⟩ := endI_write e1 (t := d.t) (by omega)
      have := tk (pWrite t.e1 d.t).2
      exact ⟨e0, a, r0.grow _, by show C12.RI _ (pWrite t.e1 d.t).1.rq _; rw [b]; exact r1, g0, fun x hx => (g1 x hx).grow _, by simp only [List.length_append]; omega, by show t.s0.length ≤ _ ∧ t.s1.length ≤ _; omega, by show 0 ≤ t.now ∧ t.now ≤ _; omega⟩
    · split
      · rw [wr]
        obtain ⟨a0, b0⟩ := endI_tick e0 (now := t.now + 1) (by omega)
        obtain ⟨a1, b1⟩ := endI_tick e1 (now := t.now + 1) (by omega)
        exact ⟨a0, a1, by show C12.RI _ (pTick t.e0 (t.now + 1)).rq _; rw [b0]; exact r0, by show C12.RI _ (pTick t.e1 (t.now + 1)).rq _; rw [b1]; exact r1, g0, g1, by show t.w0.length ≤ _ ∧ t.w1.length ≤ _; omega, by show t.s0.length ≤ _ ∧ t.s1.length ≤ _; omega, by show 0 ≤ t.now + 1 ∧ t.now + 1 ≤ _; omega⟩
      · split
        · obtain ⟨a, b, c⟩ := endI_out e0 r0.ok
          refine ⟨a, e1, by show C12.RI _ (pOut t.e0).1.rq _; rw [b]; exact r0, r1, fun x hx => ?_, g1, by show t.w0.length ≤ _ ∧ t.w1.length ≤ _; omega, ?_, by show 0 ≤ t.now ∧ t.now ≤ _; omega⟩
          · dsimp only at hx
            split at hx
            · next hb =>
              rcases List.mem_append.1 hx with hx | hx
              · exact g0 x hx
              · rw [List.mem_singleton.1 hx]; exact c hb
            · exact g0 x hx
          · dsimp only
            split
            · rw [List.length_append, List.length_singleton]; omega
            · omega
        · split
          · obtain ⟨a, b, c⟩ := endI_out e1 r1.ok
            refine ⟨e0, a, r0, by show C12.RI _ (pOut t.e1).1.rq _; rw [b]; exact r1, g0, fun x hx => ?_, by show t.w0.length ≤ _ ∧ t.w1.length ≤ _; omega, ?_, by show 0 ≤ t.now ∧ t.now ≤ _; omega⟩
            · dsimp only at hx
              split at hx
              · next hb =>
                rcases List.mem_append.1 hx with hx | hx
                · exact g1 x hx
                · rw [List.mem_singleton.1 hx]; exact c hb
              · exact g1 x hx
            · dsimp only
              split
              · rw [List.length_append, List.length_singleton]; omega
              · omega
          · have same : TI m0 m1 t (j + 1) := ⟨e0, e1, r0, r1, g0, g1, by omega, by omega, by omega⟩
            split
            · split
              · next x hx =>
                obtain ⟨a, b⟩ := endI_on e1 e0.mb (g0 x (nth_mem hx)) r1 (by omega)
                exact ⟨e0, a, r0, b, g0, g1, by show t.w0.length ≤ _ ∧ t.w1.length ≤ _; omega, by show t.s0.length ≤ _ ∧ t.s1.length ≤ _; omega, by show 0 ≤ t.now ∧ t.now ≤ _; omega⟩
              · exact same
            · split
              · split
                · next x hx =>
                  obtain ⟨a, b⟩ := endI_on e0 e1.mb (g1 x (nth_mem hx)) r0 (by omega)
                  exact ⟨a, e1, b, r1, g0, g1, by show t.w0.length ≤ _ ∧ t.w1.length ≤ _; omega, by show t.s0.length ≤ _ ∧ t.s1.length ≤ _; omega, by show 0 ≤ t.now ∧ t.now ≤ _; omega⟩
                · exact same
              · split
                · obtain ⟨a, b⟩ := endI_read e0 r0 d.n
                  exact ⟨a, e1, b, r1, g0, g1, by show t.w0.length ≤ _ ∧ t.w1.length ≤ _; omega, by show t.s0.length ≤ _ ∧ t.s1.length ≤ _; omega, by show 0 ≤ t.now ∧ t.now ≤ _; omega⟩
                · obtain ⟨a, b⟩ := endI_read e1 r1 d.n
                  exact ⟨e0, a, r0, b, g0, g1, by show t.w0.length ≤ _ ∧ t.w1.length ≤ _; omega, by show t.s0.length ≤ _ ∧ t.s1.length ≤ _; omega, by show 0 ≤ t.now ∧ t.now ≤ _; omega⟩
theorem ti_zero {a b : Int} (ha : 0 ≤ a ∧ a < 4294967296) (hb : 0 ≤ b ∧ b < 4294967296) : TI a b (t0 a b) 0 := by
  have sh : ∀ m o, ShI (C13.nNew 2 9 m) m o := fun m o => ⟨by show 0 ≤ (0 : Int) ∧ (0 : Int) ≤ 4; decide, rfl, rfl, rfl, fun _ => rfl, fun g => (by have g : (0 : Int) = 2 ∨ (0 : Int) = 3 := g; omega), by show 0 ≤ (0 : Int) ∧ (0 : Int) < 4294967296; decide⟩
  have en : ∀ m o, 0 ≤ m ∧ m < 4294967296 → EndI (pNew 2 9 m) m o [] := fun m o hm => ⟨sh m o, hm, C11.ki0, by decide, (by show C08.rCheck C08.rNew = 0; decide), C10.new_is, by show 0 ≤ (4096 : Int) ∧ (4096 : Int) ≤ 200000; decide, by show 0 ≤ (0 : Int) ∧ (0 : Int) ≤ 1000; decide⟩
  refine ⟨?_, en b a hb, C12.RI.zero, C12.RI.zero, fun x hx => (by cases hx), fun x hx => (by cases hx), (by show 0 ≤ 200 * 0 ∧ 0 ≤ 200 * 0; decide), (by show 0 ≤ 0 ∧ 0 ≤ 0; decide), by show 0 ≤ (0 : Int) ∧ (0 : Int) ≤ (0 : Int); decide⟩
  have h := en a b ha
  have e : t0 a b = ⟨{ pNew 2 9 a with sh := C13.nAt (C13.nNew 2 9 a) 1 }, pNew 2 9 b, [], [], [], [], [], [], 0⟩ := rfl
  rw [e]
  exact ⟨h.sh.at (by decide) (fun _ => rfl) (fun g => by omega), h.mb, h.sq, h.wl, h.rt, h.wn, h.li, h.no⟩
theorem endI_r {s : Pp} {m o : Int} {w w' r : List UInt8} (h : EndI s m o w) (hr : C12.RI w' s.rq r) : PpR s := by
  have h1 := h.sq.len
  have h2 := C12.ok_held hr.ok
  have h3 := hr.ok.b
  have h4 := h.wn
  have h5 := h.li
  unfold C10.aOk at h4
  exact ⟨h.sq.sq, by omega, by omega, C12.ok_rb2 hr.ok, by omega, by omega, by omega, by omega, by omega⟩
theorem segI_r {m : Int} {w : List UInt8} {x : C13.Sg} (h : SegI m w x) (hw : w.length < 50000) : SgR x := by
  obtain ⟨bs, h1, h2⟩ := h.k
  have hf := h.f
  refine ⟨by omega, ⟨bs, h1, by omega⟩, ?_⟩
  rcases hf with g | g | g | g
  · rw [(h.syn (.inl g)).2]; decide
  · rw [(h.syn (.inr g)).2]; decide
  · obtain ⟨a, -, k, -⟩ := h.dat (.inl g); omega
  · obtain ⟨a, -, k, -⟩ := h.dat (.inr g); omega
theorem deed9 {m0 m1 : Int} {t : Tk} {j : Nat} (h : TI m0 m1 t j) (hj : j < 200) (d : De) (hd : d.t.length ≤ 200) (hk : 0 ≤ d.k ∧ d.k < 256) (hn : 0 ≤ d.n ∧ d.n < 256) :
    FnOK Tryz.prog 9 [.ptr 0 0, .d (deD d)] (tkO t) (.tup []) (tkO (tDeed t d)) ∨ FnOK Tryz.prog 9 [.ptr 0 0, .d (deD d)] (tkO t) (.tup []) (tkP (tDeed t d)) ∨ FnOK Tryz.prog 9 [.ptr 0 0, .d (deD d)] (tkO t) (.tup []) (tkQ (tDeed t d)) := by
  obtain ⟨e0, e1, r0, r1, g0, g1, wl, sl, nw⟩ := h
  have p0 := endI_r e0 r0
  have p1 := endI_r e1 r1
  have q0 := fun x hx => segI_r (g0 x hx) (by omega)
  have q1 := fun x hx => segI_r (g1 x hx) (by omega)
  have hw : IntKind.i64.wrap d.n = d.n := by rw [IntKind.wrap_i64]; omega
  have h9 : d.k.tmod 9 = d.k % 9 := Int.tmod_eq_emod_of_nonneg hk.1
  have l0 : t.w0.length + d.t.length < 1000000000 := by omega
  have l1 : t.w1.length + d.t.length < 1000000000 := by omega
  have rl0 := ri_len r0
  have rl1 := ri_len r1
  have rd : ∀ s : Pp, s.rq.r.length ≤ 4096 → (pRead s d.n).2.length ≤ 4096 := fun s hs => by
    show (C12.rRead s.rq d.n).2.length ≤ _
    unfold C12.rRead
    split
    · simp
    · show (s.rq.r.take _).length ≤ _
      rw [List.length_take]; omega
  have idx : ∀ l : List C13.Sg, 0 < l.length → d.n.tmod l.length = ((d.n.toNat % l.length : Nat) : Int) := fun l hl => by
    rw [Int.tmod_eq_emod_of_nonneg hn.1]
    obtain ⟨n, e⟩ := Int.eq_ofNat_of_zero_le hn.1
    rw [e, Int.toNat_natCast]
    simp
  have get : ∀ l : List C13.Sg, 0 < l.length → ∃ x, nth l d.n = some x := fun l hl => by
    have : d.n.toNat % l.length < l.length := Nat.mod_lt _ hl
    exact ⟨_, List.getElem?_eq_getElem this⟩
  unfold tDeed
  by_cases h0 : d.k.tmod 9 = 0
  · rw [if_pos h0]
    exact .inl (deed0 t _ d l0 l1 hw _ _ (write15 t.e0 p0.sq d.t (by omega)) h0 rfl)
  rw [if_neg h0]
  by_cases h1 : d.k.tmod 9 = 1
  · rw [if_pos h1]
    exact .inl (deed1 t _ d l0 l1 hw _ _ (write15 t.e1 p1.sq d.t (by omega)) h1 rfl)
  rw [if_neg h1]
  by_cases h2 : d.k.tmod 9 = 2
  · rw [if_pos h2]
    exact .inl (deed2 t _ d l0 l1 hw _ _ _ (tick24 t.e0 p0.sq _) (tick24 t.e1 p1.sq _) rfl h2 rfl)
  rw [if_neg h2]
  by_cases h3 : d.k.tmod 9 = 3
  · rw [if_pos h3]
    have k := out16 t.e0 p0
    cases hb : (pOut t.e0).2.2
    · rw [hb] at k
      rw [if_neg (by simp)]
      exact .inl (deed3n t _ d l0 l1 hw _ _ k (by omega) h3 rfl)
    · rw [hb] at k
      rw [if_pos rfl]
      exact .inr (.inl (deed3y t _ d l0 l1 hw _ _ k (by omega) h3 rfl))
  rw [if_neg h3]
  by_cases h4 : d.k.tmod 9 = 4
  · rw [if_pos h4]
    have k := out16 t.e1 p1
    cases hb : (pOut t.e1).2.2
    · rw [hb] at k
      rw [if_neg (by simp)]
      exact .inl (deed4n t _ d l0 l1 hw _ _ k (by omega) h4 rfl)
    · rw [hb] at k
      rw [if_pos rfl]
      exact .inr (.inr (deed4y t _ d l0 l1 hw _ _ k (by omega) h4 rfl))
  rw [if_neg h4]
  by_cases h5 : d.k.tmod 9 = 5
  · rw [if_pos h5]
    by_cases hl : 0 < t.s0.length
    · obtain ⟨x, hx⟩ := get t.s0 hl
      rw [hx]
      exact .inl (deed5y t _ d l0 l1 hw _ x _ (on17 t.e1 p1 x (q0 x (nth_mem hx))) (by omega) hl (idx _ hl) hx h5 rfl)
    · have he : t.s0 = [] := List.length_eq_zero_iff.1 (by omega)
      have hx : nth t.s0 d.n = none := by rw [he]; rfl
      rw [hx]
      exact .inl (deed5n t _ d l0 l1 hw he h5 rfl)
  rw [if_neg h5]
  by_cases h6 : d.k.tmod 9 = 6
  · rw [if_pos h6]
    by_cases hl : 0 < t.s1.length
    · obtain ⟨x, hx⟩ := get t.s1 hl
      rw [hx]
      exact .inl (deed6y t _ d l0 l1 hw _ x _ (on17 t.e0 p0 x (q1 x (nth_mem hx))) (by omega) hl (idx _ hl) hx h6 rfl)
    · have he : t.s1 = [] := List.length_eq_zero_iff.1 (by omega)
      have hx : nth t.s1 d.n = none := by rw [he]; rfl
      rw [hx]
      exact .inl (deed6n t _ d l0 l1 hw he h6 rfl)
  rw [if_neg h6]
  have b0 := r0.ok.b
  have b1 := r1.ok.b
  by_cases h7 : d.k.tmod 9 = 7
  · rw [if_pos h7]
    exact .inl (deed7 t _ d l0 l1 hw _ _ (read19 t.e0 p0.rq p0.rb (by have := p0.rp; omega) d.n) (by have := rd t.e0 (by omega); omega) h7 rfl)
  rw [if_neg h7]
  exact .inl (deed8 t _ d l0 l1 hw _ _ (read19 t.e1 p1.rq p1.rb (by have := p1.rp; omega) d.n) (by have := rd t.e1 (by omega); omega) (by omega) rfl)
end Go.Proofs.YtalpfhpeaaocmaaGreat
end
section
set_option linter.unusedSimpArgs false
set_option linter.unusedVariables false
namespace Go.Proofs.YtalpfhpeaaocmaaGreat
open Sx Go.RowKit
set_option maxRecDepth 100000 in
set_option maxHeartbeats 1000000 in
theorem same20w (a : Pp) (d : Bool) (k1 : FnOK Tryz.prog 35 [.d (C11.sqD a.sq), .d (C11.sqD a.sq)] [] (.d (.bool true)) []) (k2 : FnOK Tryz.prog 36 [.d (C12.rqD a.rq), .d (C12.rqD a.rq)] [] (.d (.bool true)) []) : FnOK Tryz.prog 20 ([.d (ppD a), .d (ppD { a with du := d })]) ([]) (.d (.bool (a.du == d))) ([]) := by
  refine fnOK_wp (p := (FnOK Tryz.prog 35 [AV.d (C11.sqD a.sq), AV.d (C11.sqD a.sq)] [] (vB true) []) ∧ (rf (D.bool false)) ∧ (FnOK Tryz.prog 36 [AV.d (C12.rqD a.rq), AV.d (C12.rqD a.rq)] [] (vB true) []) ∧ (rf (D.bool false)) ∧ (D.bool (a.no == a.no) = D.bool true) ∧ (D.bool (a.he == a.he) = D.bool true) ∧ (D.bool (a.nx == a.nx) = D.bool true) ∧ (D.bool (a.pr == a.pr) = D.bool true) ∧ (rf (D.bool true)) ∧ (D.bool (a.sh.g == a.sh.g && (a.sh.p == a.sh.p && (a.sh.e == a.sh.e && (a.sh.m == a.sh.m && (a.sh.h == a.sh.h && true))))) = D.bool true) ∧ (D.bool (a.rt.s == a.rt.s && (a.rt.v == a.rt.v && (a.rt.k == a.rt.k && (a.rt.h == a.rt.h && true)))) = D.bool true) ∧ (D.bool (a.wn.w == a.wn.w && (a.wn.t == a.wn.t && (a.wn.p == a.wn.p && true))) = D.bool true) ∧ (D.bool (a.li == a.li) = D.bool true) ∧ (rf (D.bool (a.du == d))) ∧ (rf (vB (a.du == d))) ∧ True) (h := {chain := true, H := [(1, [(4, .call [] (.d (.bool true)) []), (6, .val (.bool false)), (11, .call [] (.d (.bool true)) []), (13, .val (.bool false))]), (3, [(5, .val (.bool true)), (12, .val (.bool true)), (19, .val (.bool true)), (26, .val (.bool true))]), (4, [(1, .val (.bool true)), (8, .val (.bool true)), (15, .val (.bool true)), (22, .val (.bool true)), (29, .val (.bool true)), (35, .val (.bool (a.du == d)))])]}) (subs := []) (ws := []) (ρ := []) (by kernel_rfl) ?_
  repeat' (with_reducible first | exact True.intro | apply And.intro | (first | apply zA | apply zB | apply zC | apply zD | apply zE | apply zF | apply zG) <;> intro)
  all_goals first | exact k1 | exact k2 | rfl | (refine congrArg D.bool ?_; simp; done) | skip
theorem same20 (a : Pp) (ok : C11.SqOk a.sq) (hp : a.rq.p.length < 1000000) (d : Bool) : FnOK Tryz.prog 20 [.d (ppD a), .d (ppD { a with du := d })] [] (.d (.bool (a.du == d))) [] := by
  have k1 := C11.same29 a.sq a.sq ok
  have k2 := C12.same19 a.rq a.rq hp
  rw [decide_eq_true rfl] at k1 k2
  exact same20w a d k1 k2
def a0 : Pp := ⟨⟨0, 0, 0, 5, 0⟩, ⟨0, [], 0, [], []⟩, ⟨0, [], []⟩, ⟨0, 0, false, 0⟩, ⟨96, 1024, 0⟩, 4096, 0, 0, 0, 0, false⟩
def b0 : Pp := ⟨⟨0, 0, 0, 4294967295, 0⟩, ⟨0, [], 0, [], []⟩, ⟨0, [], []⟩, ⟨0, 0, false, 0⟩, ⟨96, 1024, 0⟩, 4096, 0, 0, 0, 0, false⟩
def a1 : Pp := ⟨⟨1, 0, 0, 5, 0⟩, ⟨0, [], 0, [], []⟩, ⟨0, [], []⟩, ⟨0, 0, false, 0⟩, ⟨96, 1024, 0⟩, 4096, 0, 0, 0, 0, false⟩
def a2 : Pp := ⟨⟨1, 0, 0, 5, 0⟩, ⟨0, [], 0, [], []⟩, ⟨0, [], []⟩, ⟨0, 0, false, 1⟩, ⟨96, 1024, 0⟩, 4096, 0, 0, 8, 0, false⟩
def b3 : Pp := ⟨⟨2, 0, 0, 4294967295, 5⟩, ⟨0, [], 0, [], []⟩, ⟨0, [], []⟩, ⟨0, 0, false, 0⟩, ⟨96, 1024, 0⟩, 4096, 0, 0, 0, 0, false⟩
def b4 : Pp := ⟨⟨2, 0, 0, 4294967295, 5⟩, ⟨0, [], 0, [], []⟩, ⟨0, [], []⟩, ⟨0, 0, false, 1⟩, ⟨96, 1024, 0⟩, 4096, 0, 0, 8, 0, false⟩
def a5 : Pp := ⟨⟨3, 0, 0, 5, 4294967295⟩, ⟨0, [], 0, [], []⟩, ⟨0, [], []⟩, ⟨0, 0, false, 1⟩, ⟨96, 1024, 0⟩, 4096, 0, 0, 8, 0, true⟩
def a6 : Pp := ⟨⟨3, 0, 0, 5, 4294967295⟩, ⟨0, [104, 105], 0, [], []⟩, ⟨0, [], []⟩, ⟨0, 0, false, 1⟩, ⟨96, 1024, 0⟩, 4096, 0, 0, 8, 0, true⟩
def a7 : Pp := ⟨⟨3, 0, 0, 5, 4294967295⟩, ⟨0, [104, 105], 2, [⟨0, 2, 0, 1, false⟩], []⟩, ⟨0, [], []⟩, ⟨0, 0, false, 1⟩, ⟨96, 1024, 0⟩, 4096, 0, 0, 8, 0, false⟩
def b8 : Pp := ⟨⟨3, 0, 0, 4294967295, 5⟩, ⟨0, [], 0, [], []⟩, ⟨2, [104, 105], []⟩, ⟨0, 0, false, 1⟩, ⟨96, 1024, 0⟩, 4096, 0, 0, 8, 0, true⟩
def b9 : Pp := ⟨⟨3, 0, 0, 4294967295, 5⟩, ⟨0, [], 0, [], []⟩, ⟨2, [], []⟩, ⟨0, 0, false, 1⟩, ⟨96, 1024, 0⟩, 4096, 0, 0, 8, 0, true⟩
def b10 : Pp := ⟨⟨3, 0, 0, 4294967295, 5⟩, ⟨0, [], 0, [], []⟩, ⟨2, [], []⟩, ⟨0, 0, false, 1⟩, ⟨96, 1024, 0⟩, 4096, 0, 0, 8, 0, false⟩
def a11 : Pp := ⟨⟨3, 0, 0, 5, 4294967295⟩, ⟨2, [], 2, [], []⟩, ⟨0, [], []⟩, ⟨0, 0, true, 0⟩, ⟨98, 1024, 0⟩, 4098, 0, 0, 8, 0, false⟩
def a12 : Pp := ⟨⟨4, 0, 0, 5, 4294967295⟩, ⟨2, [], 2, [], []⟩, ⟨0, [], []⟩, ⟨0, 0, true, 0⟩, ⟨98, 1024, 0⟩, 4098, 0, 0, 8, 0, false⟩
def a13 : Pp := ⟨⟨3, 0, 0, 5, 4294967295⟩, ⟨2, [], 2, [], []⟩, ⟨0, [], []⟩, ⟨0, 0, true, 0⟩, ⟨98, 1024, 0⟩, 4098, 7, 0, 8, 0, false⟩
def z14 : Pp := ⟨⟨0, 0, 0, 0, 0⟩, ⟨0, [], 0, [], []⟩, ⟨0, [], []⟩, ⟨0, 0, false, 0⟩, ⟨0, 0, 0⟩, 0, 0, 0, 0, 0, false⟩
def x2 : C13.Sg := ⟨1, 0, 0, 5, 0, 65535, [], []⟩
def x4 : C13.Sg := ⟨3, 0, 0, 4294967295, 6, 65535, [], []⟩
def x7 : C13.Sg := ⟨2, 0, 0, 6, 0, 4096, [], [104, 105]⟩
def x10 : C13.Sg := ⟨2, 0, 0, 0, 8, 4096, [], []⟩
def inR (s : Pp) : Bool :=
  decide (-9223372036854775808 ≤ s.sq.b ∧ s.sq.b < 9223372036854775808) && (decide (-9223372036854775808 ≤ s.sq.n ∧ s.sq.n < 9223372036854775808) && (decide (s.sq.fl.length < 10) && (decide (s.sq.cm.length < 10) && (decide (s.sq.d.length < 10) &&
  (decide (0 ≤ s.rq.b ∧ s.rq.b ≤ 10) && (decide (s.rq.r.length < 10) && (decide (s.rq.p = []) && (decide (-10000 ≤ s.wn.w ∧ s.wn.w < 10000) && decide (-10000 ≤ s.li ∧ s.li < 10000)))))))))
theorem inR_r {s : Pp} (h : inR s = true) : PpR s := by
  unfold inR at h
  simp only [Bool.and_eq_true, decide_eq_true_eq] at h
  obtain ⟨h1, h2, h3, h4, h5, h6, h7, h8, h9, h10⟩ := h
  have e : C12.rHeld s.rq = s.rq.r.length := by unfold C12.rHeld; rw [h8]; rfl
  exact ⟨⟨h1, h2, by omega, by omega, by omega⟩, by omega, by omega, ⟨by omega, by omega, by rw [h8]; decide, fun x hx => by rw [h8] at hx; cases hx⟩, by omega, by rw [h8]; decide, by omega, by omega, by omega⟩
theorem sgr (x : C13.Sg) (h : x.k = []) (f : 0 ≤ x.f ∧ x.f < 256) (t : x.t.length < 100) : SgR x := ⟨f, ⟨[], h, by decide⟩, by omega⟩
set_option maxRecDepth 100000 in
set_option maxHeartbeats 1000000 in
theorem aw7  : FnOK Tryz.prog 7 ([]) ([]) (.d (.bool true)) ([]) := by
  refine fnOK_wp (p := (FnOK Tryz.prog 22 [vI 0, vI 0, vW 5] [] (AV.tup [AV.d (pxD (0 : Int) (0 : Int) (0 : Int) (5 : Int) (0 : Int) (0 : Int) [] (0 : Int) [] [] (0 : Int) [] [] (0 : Int) (0 : Int) false (0 : Int) (96 : Int) (1024 : Int) (0 : Int) (4096 : Int) (0 : Int) (0 : Int) (0 : Int) (0 : Int) false), vI 0]) []) ∧ (FnOK Tryz.prog 22 [vI 0, vI 0, vW 4294967295] [] (AV.tup [AV.d (pxD (0 : Int) (0 : Int) (0 : Int) (4294967295 : Int) (0 : Int) (0 : Int) [] (0 : Int) [] [] (0 : Int) [] [] (0 : Int) (0 : Int) false (0 : Int) (96 : Int) (1024 : Int) (0 : Int) (4096 : Int) (0 : Int) (0 : Int) (0 : Int) (0 : Int) false), vI 0]) []) ∧ (FnOK Tryz.prog 23 [AV.d (pxD (0 : Int) (0 : Int) (0 : Int) (5 : Int) (0 : Int) (0 : Int) [] (0 : Int) [] [] (0 : Int) [] [] (0 : Int) (0 : Int) false (0 : Int) (96 : Int) (1024 : Int) (0 : Int) (4096 : Int) (0 : Int) (0 : Int) (0 : Int) (0 : Int) false)] [] (AV.d (pxD (1 : Int) (0 : Int) (0 : Int) (5 : Int) (0 : Int) (0 : Int) [] (0 : Int) [] [] (0 : Int) [] [] (0 : Int) (0 : Int) false (0 : Int) (96 : Int) (1024 : Int) (0 : Int) (4096 : Int) (0 : Int) (0 : Int) (0 : Int) (0 : Int) false)) []) ∧ (FnOK Tryz.prog 16 [AV.d (pxD (1 : Int) (0 : Int) (0 : Int) (5 : Int) (0 : Int) (0 : Int) [] (0 : Int) [] [] (0 : Int) [] [] (0 : Int) (0 : Int) false (0 : Int) (96 : Int) (1024 : Int) (0 : Int) (4096 : Int) (0 : Int) (0 : Int) (0 : Int) (0 : Int) false)] [] (AV.tup [AV.d (pxD (1 : Int) (0 : Int) (0 : Int) (5 : Int) (0 : Int) (0 : Int) [] (0 : Int) [] [] (0 : Int) [] [] (0 : Int) (0 : Int) false (1 : Int) (96 : Int) (1024 : Int) (0 : Int) (4096 : Int) (0 : Int) (0 : Int) (8 : Int) (0 : Int) false), AV.d (.agg [D.int .u8 1, D.int .i64 0, D.int .i64 0, D.int .u32 5, D.int .u32 0, D.int .i64 65535, D.sl [], D.str []]), vB true]) []) ∧ (FnOK Tryz.prog 17 [AV.d (pxD (0 : Int) (0 : Int) (0 : Int) (4294967295 : Int) (0 : Int) (0 : Int) [] (0 : Int) [] [] (0 : Int) [] [] (0 : Int) (0 : Int) false (0 : Int) (96 : Int) (1024 : Int) (0 : Int) (4096 : Int) (0 : Int) (0 : Int) (0 : Int) (0 : Int) false), AV.d (.agg [D.int .u8 1, D.int .i64 0, D.int .i64 0, D.int .u32 5, D.int .u32 0, D.int .i64 65535, D.sl [], D.str []])] [] (AV.d (pxD (2 : Int) (0 : Int) (0 : Int) (4294967295 : Int) (5 : Int) (0 : Int) [] (0 : Int) [] [] (0 : Int) [] [] (0 : Int) (0 : Int) false (0 : Int) (96 : Int) (1024 : Int) (0 : Int) (4096 : Int) (0 : Int) (0 : Int) (0 : Int) (0 : Int) false)) []) ∧ (FnOK Tryz.prog 16 [AV.d (pxD (2 : Int) (0 : Int) (0 : Int) (4294967295 : Int) (5 : Int) (0 : Int) [] (0 : Int) [] [] (0 : Int) [] [] (0 : Int) (0 : Int) false (0 : Int) (96 : Int) (1024 : Int) (0 : Int) (4096 : Int) (0 : Int) (0 : Int) (0 : Int) (0 : Int) false)] [] (AV.tup [AV.d (pxD (2 : Int) (0 : Int) (0 : Int) (4294967295 : Int) (5 : Int) (0 : Int) [] (0 : Int) [] [] (0 : Int) [] [] (0 : Int) (0 : Int) false (1 : Int) (96 : Int) (1024 : Int) (0 : Int) (4096 : Int) (0 : Int) (0 : Int) (8 : Int) (0 : Int) false), AV.d (.agg [D.int .u8 3, D.int .i64 0, D.int .i64 0, D.int .u32 4294967295, D.int .u32 6, D.int .i64 65535, D.sl [], D.str []]), vB true]) []) ∧ (FnOK Tryz.prog 17 [AV.d (pxD (1 : Int) (0 : Int) (0 : Int) (5 : Int) (0 : Int) (0 : Int) [] (0 : Int) [] [] (0 : Int) [] [] (0 : Int) (0 : Int) false (1 : Int) (96 : Int) (1024 : Int) (0 : Int) (4096 : Int) (0 : Int) (0 : Int) (8 : Int) (0 : Int) false), AV.d (.agg [D.int .u8 3, D.int .i64 0, D.int .i64 0, D.int .u32 4294967295, D.int .u32 6, D.int .i64 65535, D.sl [], D.str []])] [] (AV.d (pxD (3 : Int) (0 : Int) (0 : Int) (5 : Int) (4294967295 : Int) (0 : Int) [] (0 : Int) [] [] (0 : Int) [] [] (0 : Int) (0 : Int) false (1 : Int) (96 : Int) (1024 : Int) (0 : Int) (4096 : Int) (0 : Int) (0 : Int) (8 : Int) (0 : Int) true)) []) ∧ (FnOK Tryz.prog 15 [AV.d (pxD (3 : Int) (0 : Int) (0 : Int) (5 : Int) (4294967295 : Int) (0 : Int) [] (0 : Int) [] [] (0 : Int) [] [] (0 : Int) (0 : Int) false (1 : Int) (96 : Int) (1024 : Int) (0 : Int) (4096 : Int) (0 : Int) (0 : Int) (8 : Int) (0 : Int) true), vS [(104 : UInt8), (105 : UInt8)]] [] (AV.tup [AV.d (pxD (3 : Int) (0 : Int) (0 : Int) (5 : Int) (4294967295 : Int) (0 : Int) [(104 : UInt8), (105 : UInt8)] (0 : Int) [] [] (0 : Int) [] [] (0 : Int) (0 : Int) false (1 : Int) (96 : Int) (1024 : Int) (0 : Int) (4096 : Int) (0 : Int) (0 : Int) (8 : Int) (0 : Int) true), vI 2]) []) ∧ (FnOK Tryz.prog 16 [AV.d (pxD (3 : Int) (0 : Int) (0 : Int) (5 : Int) (4294967295 : Int) (0 : Int) [(104 : UInt8), (105 : UInt8)] (0 : Int) [] [] (0 : Int) [] [] (0 : Int) (0 : Int) false (1 : Int) (96 : Int) (1024 : Int) (0 : Int) (4096 : Int) (0 : Int) (0 : Int) (8 : Int) (0 : Int) true)] [] (AV.tup [AV.d (.agg [D.int .u8 3, D.int .i64 0, D.int .i64 0, D.int .u32 5, D.int .u32 4294967295, D.int .i64 0, D.str [(104 : UInt8), (105 : UInt8)], D.int .i64 2, D.sl [D.agg [D.int .i64 0, D.int .i64 2, D.int .i64 0, D.int .i64 1, D.bool false]], D.sl [], D.int .i64 0, D.str [], D.sl [], D.int .i64 0, D.int .i64 0, D.bool false, D.int .i64 1, D.int .i64 96, D.int .i64 1024, D.int .i64 0, D.int .i64 4096, D.int .i64 0, D.int .i64 0, D.int .i64 8, D.int .i64 0, D.bool false]), AV.d (.agg [D.int .u8 2, D.int .i64 0, D.int .i64 0, D.int .u32 6, D.int .u32 0, D.int .i64 4096, D.sl [], D.str [(104 : UInt8), (105 : UInt8)]]), vB true]) []) ∧ (FnOK Tryz.prog 17 [AV.d (pxD (2 : Int) (0 : Int) (0 : Int) (4294967295 : Int) (5 : Int) (0 : Int) [] (0 : Int) [] [] (0 : Int) [] [] (0 : Int) (0 : Int) false (1 : Int) (96 : Int) (1024 : Int) (0 : Int) (4096 : Int) (0 : Int) (0 : Int) (8 : Int) (0 : Int) false), AV.d (.agg [D.int .u8 2, D.int .i64 0, D.int .i64 0, D.int .u32 6, D.int .u32 0, D.int .i64 4096, D.sl [], D.str [(104 : UInt8), (105 : UInt8)]])] [] (AV.d (pxD (3 : Int) (0 : Int) (0 : Int) (4294967295 : Int) (5 : Int) (0 : Int) [] (0 : Int) [] [] (2 : Int) [(104 : UInt8), (105 : UInt8)] [] (0 : Int) (0 : Int) false (1 : Int) (96 : Int) (1024 : Int) (0 : Int) (4096 : Int) (0 : Int) (0 : Int) (8 : Int) (0 : Int) true)) []) ∧ (FnOK Tryz.prog 18 [AV.d (pxD (3 : Int) (0 : Int) (0 : Int) (4294967295 : Int) (5 : Int) (0 : Int) [] (0 : Int) [] [] (2 : Int) [(104 : UInt8), (105 : UInt8)] [] (0 : Int) (0 : Int) false (1 : Int) (96 : Int) (1024 : Int) (0 : Int) (4096 : Int) (0 : Int) (0 : Int) (8 : Int) (0 : Int) true)] [] (vI 2) []) ∧ (FnOK Tryz.prog 19 [AV.d (pxD (3 : Int) (0 : Int) (0 : Int) (4294967295 : Int) (5 : Int) (0 : Int) [] (0 : Int) [] [] (2 : Int) [(104 : UInt8), (105 : UInt8)] [] (0 : Int) (0 : Int) false (1 : Int) (96 : Int) (1024 : Int) (0 : Int) (4096 : Int) (0 : Int) (0 : Int) (8 : Int) (0 : Int) true), vI 9] [] (AV.tup [AV.d (pxD (3 : Int) (0 : Int) (0 : Int) (4294967295 : Int) (5 : Int) (0 : Int) [] (0 : Int) [] [] (2 : Int) [] [] (0 : Int) (0 : Int) false (1 : Int) (96 : Int) (1024 : Int) (0 : Int) (4096 : Int) (0 : Int) (0 : Int) (8 : Int) (0 : Int) true), vS [(104 : UInt8), (105 : UInt8)]]) []) ∧ (FnOK Tryz.prog 16 [AV.d (pxD (3 : Int) (0 : Int) (0 : Int) (4294967295 : Int) (5 : Int) (0 : Int) [] (0 : Int) [] [] (2 : Int) [] [] (0 : Int) (0 : Int) false (1 : Int) (96 : Int) (1024 : Int) (0 : Int) (4096 : Int) (0 : Int) (0 : Int) (8 : Int) (0 : Int) true)] [] (AV.tup [AV.d (pxD (3 : Int) (0 : Int) (0 : Int) (4294967295 : Int) (5 : Int) (0 : Int) [] (0 : Int) [] [] (2 : Int) [] [] (0 : Int) (0 : Int) false (1 : Int) (96 : Int) (1024 : Int) (0 : Int) (4096 : Int) (0 : Int) (0 : Int) (8 : Int) (0 : Int) false), AV.d (.agg [D.int .u8 2, D.int .i64 0, D.int .i64 0, D.int .u32 0, D.int .u32 8, D.int .i64 4096, D.sl [], D.str []]), vB true]) []) ∧ (FnOK Tryz.prog 17 [AV.d (.agg [D.int .u8 3, D.int .i64 0, D.int .i64 0, D.int .u32 5, D.int .u32 4294967295, D.int .i64 0, D.str [(104 : UInt8), (105 : UInt8)], D.int .i64 2, D.sl [D.agg [D.int .i64 0, D.int .i64 2, D.int .i64 0, D.int .i64 1, D.bool false]], D.sl [], D.int .i64 0, D.str [], D.sl [], D.int .i64 0, D.int .i64 0, D.bool false, D.int .i64 1, D.int .i64 96, D.int .i64 1024, D.int .i64 0, D.int .i64 4096, D.int .i64 0, D.int .i64 0, D.int .i64 8, D.int .i64 0, D.bool false]), AV.d (.agg [D.int .u8 2, D.int .i64 0, D.int .i64 0, D.int .u32 0, D.int .u32 8, D.int .i64 4096, D.sl [], D.str []])] [] (AV.d (pxD (3 : Int) (0 : Int) (0 : Int) (5 : Int) (4294967295 : Int) (2 : Int) [] (2 : Int) [] [] (0 : Int) [] [] (0 : Int) (0 : Int) true (0 : Int) (98 : Int) (1024 : Int) (0 : Int) (4098 : Int) (0 : Int) (0 : Int) (8 : Int) (0 : Int) false)) []) ∧ (FnOK Tryz.prog 22 [vI 4, vI 0, vW 0] [] (AV.tup [AV.d (pxD (0 : Int) (0 : Int) (0 : Int) (0 : Int) (0 : Int) (0 : Int) [] (0 : Int) [] [] (0 : Int) [] [] (0 : Int) (0 : Int) false (0 : Int) (0 : Int) (0 : Int) (0 : Int) (0 : Int) (0 : Int) (0 : Int) (0 : Int) (0 : Int) false), vI 8]) []) ∧ (rf (D.bool true)) ∧ (rf (D.bool true)) ∧ (rf (D.bool true)) ∧ (rf (D.bool true)) ∧ (rf (D.bool true)) ∧ (rf (D.bool true)) ∧ (rf (D.bool true)) ∧ (rf (D.bool true)) ∧ (rf (D.bool true)) ∧ (rf (D.bool true)) ∧ (rf (D.bool true)) ∧ (rf (D.bool true)) ∧ (rf (D.bool true)) ∧ (rf (D.bool true)) ∧ (rf (D.bool true)) ∧ (rf (D.bool true)) ∧ (rf (D.bool true)) ∧ (FnOK Tryz.prog 13 [AV.d (pxD (3 : Int) (0 : Int) (0 : Int) (5 : Int) (4294967295 : Int) (2 : Int) [] (2 : Int) [] [] (0 : Int) [] [] (0 : Int) (0 : Int) true (0 : Int) (98 : Int) (1024 : Int) (0 : Int) (4098 : Int) (0 : Int) (0 : Int) (8 : Int) (0 : Int) false)] [] (vB true) []) ∧ (rf (D.bool true)) ∧ (FnOK Tryz.prog 12 [AV.d (pxD (3 : Int) (0 : Int) (0 : Int) (5 : Int) (4294967295 : Int) (2 : Int) [] (2 : Int) [] [] (0 : Int) [] [] (0 : Int) (0 : Int) true (0 : Int) (98 : Int) (1024 : Int) (0 : Int) (4098 : Int) (0 : Int) (0 : Int) (8 : Int) (0 : Int) false)] [] (vB true) []) ∧ (rf (D.bool true)) ∧ (FnOK Tryz.prog 12 [AV.d (pxD (3 : Int) (0 : Int) (0 : Int) (4294967295 : Int) (5 : Int) (0 : Int) [] (0 : Int) [] [] (2 : Int) [] [] (0 : Int) (0 : Int) false (1 : Int) (96 : Int) (1024 : Int) (0 : Int) (4096 : Int) (0 : Int) (0 : Int) (8 : Int) (0 : Int) false)] [] (vB true) []) ∧ (rf (D.bool true)) ∧ (FnOK Tryz.prog 21 [AV.d (pxD (3 : Int) (0 : Int) (0 : Int) (5 : Int) (4294967295 : Int) (2 : Int) [] (2 : Int) [] [] (0 : Int) [] [] (0 : Int) (0 : Int) true (0 : Int) (98 : Int) (1024 : Int) (0 : Int) (4098 : Int) (0 : Int) (0 : Int) (8 : Int) (0 : Int) false)] [] (vI 4096) []) ∧ (rf (D.bool true)) ∧ (rf (D.bool true)) ∧ (rf (D.bool true)) ∧ (FnOK Tryz.prog 14 [AV.d (pxD (3 : Int) (0 : Int) (0 : Int) (5 : Int) (4294967295 : Int) (2 : Int) [] (2 : Int) [] [] (0 : Int) [] [] (0 : Int) (0 : Int) true (0 : Int) (98 : Int) (1024 : Int) (0 : Int) (4098 : Int) (0 : Int) (0 : Int) (8 : Int) (0 : Int) false)] [] (AV.d (pxD (4 : Int) (0 : Int) (0 : Int) (5 : Int) (4294967295 : Int) (2 : Int) [] (2 : Int) [] [] (0 : Int) [] [] (0 : Int) (0 : Int) true (0 : Int) (98 : Int) (1024 : Int) (0 : Int) (4098 : Int) (0 : Int) (0 : Int) (8 : Int) (0 : Int) false)) []) ∧ (FnOK Tryz.prog 21 [AV.d (pxD (4 : Int) (0 : Int) (0 : Int) (5 : Int) (4294967295 : Int) (2 : Int) [] (2 : Int) [] [] (0 : Int) [] [] (0 : Int) (0 : Int) true (0 : Int) (98 : Int) (1024 : Int) (0 : Int) (4098 : Int) (0 : Int) (0 : Int) (8 : Int) (0 : Int) false)] [] (vI 0) []) ∧ (rf (D.bool true)) ∧ (FnOK Tryz.prog 24 [AV.d (pxD (3 : Int) (0 : Int) (0 : Int) (5 : Int) (4294967295 : Int) (2 : Int) [] (2 : Int) [] [] (0 : Int) [] [] (0 : Int) (0 : Int) true (0 : Int) (98 : Int) (1024 : Int) (0 : Int) (4098 : Int) (0 : Int) (0 : Int) (8 : Int) (0 : Int) false), vI 7] [] (AV.d (pxD (3 : Int) (0 : Int) (0 : Int) (5 : Int) (4294967295 : Int) (2 : Int) [] (2 : Int) [] [] (0 : Int) [] [] (0 : Int) (0 : Int) true (0 : Int) (98 : Int) (1024 : Int) (0 : Int) (4098 : Int) (7 : Int) (0 : Int) (8 : Int) (0 : Int) false)) []) ∧ (rf (D.bool true)) ∧ (FnOK Tryz.prog 20 [AV.d (pxD (3 : Int) (0 : Int) (0 : Int) (4294967295 : Int) (5 : Int) (0 : Int) [] (0 : Int) [] [] (2 : Int) [] [] (0 : Int) (0 : Int) false (1 : Int) (96 : Int) (1024 : Int) (0 : Int) (4096 : Int) (0 : Int) (0 : Int) (8 : Int) (0 : Int) true), AV.d (pxD (3 : Int) (0 : Int) (0 : Int) (4294967295 : Int) (5 : Int) (0 : Int) [] (0 : Int) [] [] (2 : Int) [] [] (0 : Int) (0 : Int) false (1 : Int) (96 : Int) (1024 : Int) (0 : Int) (4096 : Int) (0 : Int) (0 : Int) (8 : Int) (0 : Int) true)] [] (vB true) []) ∧ (rf (D.bool true)) ∧ (FnOK Tryz.prog 20 [AV.d (pxD (3 : Int) (0 : Int) (0 : Int) (4294967295 : Int) (5 : Int) (0 : Int) [] (0 : Int) [] [] (2 : Int) [] [] (0 : Int) (0 : Int) false (1 : Int) (96 : Int) (1024 : Int) (0 : Int) (4096 : Int) (0 : Int) (0 : Int) (8 : Int) (0 : Int) true), AV.d (pxD (3 : Int) (0 : Int) (0 : Int) (4294967295 : Int) (5 : Int) (0 : Int) [] (0 : Int) [] [] (2 : Int) [] [] (0 : Int) (0 : Int) false (1 : Int) (96 : Int) (1024 : Int) (0 : Int) (4096 : Int) (0 : Int) (0 : Int) (8 : Int) (0 : Int) false)] [] (vB false) []) ∧ (rf (D.bool true)) ∧ (rf (D.bool true)) ∧ (rf (vB true)) ∧ True) (h := {chain := true, H := [(1, [(0, .call [] (.tup [.d (ppD a0), .d (.int .i64 0)]) [])]), (2, [(0, .call [] (.tup [.d (ppD b0), .d (.int .i64 0)]) [])]), (3, [(1, .call [] (.d (ppD a1)) [])]), (4, [(1, .call [] (.tup [.d (ppD a2), .d (C13.sgD x2), .d (.bool true)]) [])]), (5, [(2, .call [] (.d (ppD b3)) [])]), (6, [(1, .call [] (.tup [.d (ppD b4), .d (C13.sgD x4), .d (.bool true)]) [])]), (7, [(2, .call [] (.d (ppD a5)) [])]), (8, [(1, .call [] (.tup [.d (ppD a6), .d (.int .i64 2)]) [])]), (9, [(1, .call [] (.tup [.d (ppD a7), .d (C13.sgD x7), .d (.bool true)]) [])]), (10, [(2, .call [] (.d (ppD b8)) [])]), (11, [(1, .call [] (.d (.int .i64 2)) [])]), (12, [(1, .call [] (.tup [.d (ppD b9), .d (.str [104, 105])]) [])]), (13, [(1, .call [] (.tup [.d (ppD b10), .d (C13.sgD x10), .d (.bool true)]) [])]), (14, [(2, .call [] (.d (ppD a11)) [])]), (15, [(0, .call [] (.tup [.d (ppD z14), .d (.int .i64 8)]) [])]), (16, [(2, .val (.bool true)), (6, .val (.bool true)), (9, .val (.bool true)), (14, .val (.bool true)), (17, .val (.bool true)), (22, .val (.bool true)), (27, .val (.bool true)), (31, .val (.bool true)), (34, .val (.bool true)), (39, .val (.bool true)), (44, .val (.bool true)), (49, .val (.bool true)), (53, .val (.bool true)), (57, .val (.bool true)), (60, .val (.bool true)), (65, .val (.bool true)), (70, .val (.bool true)), (74, .val (.bool true)), (78, .val (.bool true)), (82, .val (.bool true)), (87, .val (.bool true)), (91, .val (.bool true)), (97, .val (.bool true)), (103, .val (.bool true)), (109, .val (.bool true)), (114, .val (.bool true)), (120, .val (.bool true)), (122, .val (.bool true)), (72, .call [] (.d (.bool true)) []), (76, .call [] (.d (.bool true)) []), (80, .call [] (.d (.bool true)) []), (84, .call [] (.d (.int .i64 4096)) []), (99, .call [] (.d (ppD a12)) []), (100, .call [] (.d (.int .i64 0)) []), (105, .call [] (.d (ppD a13)) []), (112, .call [] (.d (.bool true)) []), (117, .call [] (.d (.bool false)) [])])]}) (subs := []) (ws := []) (ρ := []) (by kernel_rfl) ?_
  have r0 : PpR b0 := inR_r rfl
  have r1 : PpR a1 := inR_r rfl
  have r2 : PpR a2 := inR_r rfl
  have r3 : PpR b3 := inR_r rfl
  have r4 : PpR b4 := inR_r rfl
  have r5 : PpR a5 := inR_r rfl
  have r6 : PpR a6 := inR_r rfl
  have r7 : PpR a7 := inR_r rfl
  have r8 : PpR b8 := inR_r rfl
  have r9 : PpR b9 := inR_r rfl
  have r11 : PpR a11 := inR_r rfl
  have c1 : FnOK Tryz.prog 22 [.d (.int .i64 0), .d (.int .i64 0), .d (.int .u32 5)] [] (.tup [.d (ppD a0), .d (.int .i64 0)]) [] := new22 0 0 5 rfl
  have c2 : FnOK Tryz.prog 22 [.d (.int .i64 0), .d (.int .i64 0), .d (.int .u32 4294967295)] [] (.tup [.d (ppD b0), .d (.int .i64 0)]) [] := new22 0 0 4294967295 rfl
  have c3 : FnOK Tryz.prog 23 [.d (ppD a0)] [] (.d (ppD a1)) [] := fnOK_rv (open23 a0) (by kernel_rfl)
  have c4 : FnOK Tryz.prog 16 [.d (ppD a1)] [] (.tup [.d (ppD a2), .d (C13.sgD x2), .d (.bool true)]) [] := fnOK_rv (out16 a1 r1) (by kernel_rfl)
  have c5 : FnOK Tryz.prog 17 [.d (ppD b0), .d (C13.sgD x2)] [] (.d (ppD b3)) [] := fnOK_rv (on17 b0 r0 x2 (sgr x2 rfl (by decide) (by decide))) (by kernel_rfl)
  have c6 : FnOK Tryz.prog 16 [.d (ppD b3)] [] (.tup [.d (ppD b4), .d (C13.sgD x4), .d (.bool true)]) [] := fnOK_rv (out16 b3 r3) (by kernel_rfl)
  have c7 : FnOK Tryz.prog 17 [.d (ppD a2), .d (C13.sgD x4)] [] (.d (ppD a5)) [] := fnOK_rv (on17 a2 r2 x4 (sgr x4 rfl (by decide) (by decide))) (by kernel_rfl)
  have c8 : FnOK Tryz.prog 15 [.d (ppD a5), .d (.str [104, 105])] [] (.tup [.d (ppD a6), .d (.int .i64 2)]) [] := fnOK_rv (write15 a5 r5.sq [104, 105] (by decide)) (by kernel_rfl)
  have c9 : FnOK Tryz.prog 16 [.d (ppD a6)] [] (.tup [.d (ppD a7), .d (C13.sgD x7), .d (.bool true)]) [] := fnOK_rv (out16 a6 r6) (by kernel_rfl)
  have c10 : FnOK Tryz.prog 17 [.d (ppD b4), .d (C13.sgD x7)] [] (.d (ppD b8)) [] := fnOK_rv (on17 b4 r4 x7 (sgr x7 rfl (by decide) (by decide))) (by kernel_rfl)
  have c11 := ready18 b8
  have c12 : FnOK Tryz.prog 19 [.d (ppD b8), .d (.int .i64 9)] [] (.tup [.d (ppD b9), .d (.str [104, 105])]) [] := fnOK_rv (read19 b8 r8.rq r8.rb (by decide) 9) (by kernel_rfl)
  have c13 : FnOK Tryz.prog 16 [.d (ppD b9)] [] (.tup [.d (ppD b10), .d (C13.sgD x10), .d (.bool true)]) [] := fnOK_rv (out16 b9 r9) (by kernel_rfl)
  have c14 : FnOK Tryz.prog 17 [.d (ppD a7), .d (C13.sgD x10)] [] (.d (ppD a11)) [] := fnOK_rv (on17 a7 r7 x10 (sgr x10 rfl (by decide) (by decide))) (by kernel_rfl)
  have c15 : FnOK Tryz.prog 22 [.d (.int .i64 4), .d (.int .i64 0), .d (.int .u32 0)] [] (.tup [.d (ppD z14), .d (.int .i64 8)]) [] := new22n 4 0 0 rfl
  have c16 := idle13 a11
  have c17 := alive12 a11
  have c18 := alive12 b10
  have c19 : FnOK Tryz.prog 21 [.d (ppD a11)] [] (.d (.int .i64 4096)) [] := fnOK_rv (room21 a11) (by kernel_rfl)
  have c20 : FnOK Tryz.prog 14 [.d (ppD a11)] [] (.d (ppD a12)) [] := fnOK_rv (kill14 a11) (by kernel_rfl)
  have c21 : FnOK Tryz.prog 21 [.d (ppD a12)] [] (.d (.int .i64 0)) [] := fnOK_rv (room21 a12) (by kernel_rfl)
  have c22 : FnOK Tryz.prog 24 [.d (ppD a11), .d (.int .i64 7)] [] (.d (ppD a13)) [] := fnOK_rv (tick24 a11 r11.sq 7) (by kernel_rfl)
  have c23 := same20 b9 r9.sq (by decide) true
  have c24 := same20 b9 r9.sq (by decide) false
  repeat' (with_reducible first | exact True.intro | apply And.intro | (first | apply zA | apply zB | apply zC | apply zD | apply zE | apply zF | apply zG) <;> intro)
  all_goals first | exact c1 | exact c2 | exact c3 | exact c4 | exact c5 | exact c6 | exact c7 | exact c8 | exact c9 | exact c10 | exact c11 | exact c12 | exact c13 | exact c14 | exact c15 | exact c16 | exact c17 | exact c18 | exact c19 | exact c20 | exact c21 | exact c22 | exact c23 | exact c24 | rfl | decide | skip
end Go.Proofs.YtalpfhpeaaocmaaGreat
end
section
set_option linter.unusedSimpArgs false
set_option linter.unusedVariables false
namespace Go.Proofs.YtalpfhpeaaocmaaGreat
open Sx Go.RowKit
def IP (l : List De) (t : Tk) (j : Nat) : St := ⟨[(1, .d (.sl (l.map deD))), (5, .ptr 0 0), (7, .d (.int .i64 j))], [(0, tkB 1 2 t), (1, .row 8 (t.s0.map C13.sgD)), (2, .row 8 (t.s1.map C13.sgD))]⟩
def tn (a b : Int) (l : List De) (j : Nat) : Tk := (l.take j).foldl tDeed (t0 a b)
theorem tn_succ {a b : Int} {l : List De} {j : Nat} {d : De} (h : l[j]? = some d) : tn a b l (j + 1) = tDeed (tn a b l j) d := by
  unfold tn; rw [take_snoc h, List.foldl_append]; rfl
def DeOk (d : De) : Prop := (0 ≤ d.k ∧ d.k < 256) ∧ (0 ≤ d.n ∧ d.n < 256)
theorem ti_tn {a b : Int} (ha : 0 ≤ a ∧ a < 4294967296) (hb : 0 ≤ b ∧ b < 4294967296) {l : List De} (hl : l.length ≤ 100) (hs : ∀ d ∈ l, d.t.length ≤ 200) : ∀ j : Nat, j ≤ l.length → TI a b (tn a b l j) j
  | 0, _ => ti_zero ha hb
  | j + 1, h => by
    have hn := get_of (show j < l.length by omega)
    rw [tn_succ hn]
    exact ti_deed (ti_tn ha hb hl hs j (by omega)) (by omega) _ (hs _ (get_mem hn))
theorem fewB_iff {l : List De} {n : Nat} : fewB l n = true ↔ l.length ≤ n ∧ ∀ d ∈ l, d.t.length ≤ 200 := by
  unfold fewB
  rw [Bool.and_eq_true, decide_eq_true_eq, List.all_eq_true]
  simp only [decide_eq_true_eq]
theorem de_of {y : D} (h : ∃ ds, CK.hasL [.int .u8, .int .u8, .str] ds ∧ (if true = true then y = .agg ds else ds = [y])) : ∃ a : De, y = deD a ∧ DeOk a := by
  obtain ⟨ds, rfl, h0⟩ := ckA h
  obtain ⟨d1, r1, rfl, g1, h1⟩ := hasL_cons h0
  obtain ⟨v1, rfl, a1, b1⟩ := has_u8 g1
  obtain ⟨d2, r2, rfl, g2, h2⟩ := hasL_cons h1
  obtain ⟨v2, rfl, a2, b2⟩ := has_u8 g2
  obtain ⟨d3, r3, rfl, g3, h3⟩ := hasL_cons h2
  obtain ⟨v3, rfl, a3⟩ := has_str g3
  obtain rfl := hasL_nil h3
  exact ⟨⟨v1, v2, v3⟩, rfl, ⟨a1, b1⟩, a2, b2⟩
theorem des_of (x0 : D) (s0 : ∃ ds, CK.hasL [.sl true [.int .u8, .int .u8, .str]] ds ∧ (if false = true then x0 = .agg ds else ds = [x0])) : ∃ l : List De, x0 = .sl (l.map deD) ∧ ∀ a ∈ l, DeOk a := by
  obtain ⟨K, rfl, -, h⟩ := has_slOf deD DeOk (ck1 s0) (fun y h => de_of h)
  exact ⟨K, rfl, h⟩
theorem two_of (x0 : D) (s0 : ∃ ds, CK.hasL [.int .u32, .int .u32] ds ∧ (if true = true then x0 = .agg ds else ds = [x0])) : ∃ a b : Int, x0 = .agg [.int .u32 a, .int .u32 b] ∧ (0 ≤ a ∧ a < 4294967296) ∧ (0 ≤ b ∧ b < 4294967296) := by
  obtain ⟨ds, rfl, h0⟩ := ckA s0
  obtain ⟨d1, r1, rfl, g1, h1⟩ := hasL_cons h0
  obtain ⟨v1, rfl, a1, b1⟩ := has_u32 g1
  obtain ⟨d2, r2, rfl, g2, h2⟩ := hasL_cons h1
  obtain ⟨v2, rfl, a2, b2⟩ := has_u32 g2
  obtain rfl := hasL_nil h2
  exact ⟨v1, v2, rfl, ⟨a1, b1⟩, a2, b2⟩
end Go.Proofs.YtalpfhpeaaocmaaGreat
end
section
set_option linter.unusedSimpArgs false
set_option linter.unusedVariables false
namespace Go.Proofs.YtalpfhpeaaocmaaGreat
open Sx Go.RowKit
set_option maxRecDepth 100000 in
set_option maxHeartbeats 1000000 in
theorem rDo (l : List De) (hl : l.length ≤ 100) (t t' : Tk) (j : Nat) (d : De) (hn : l[j]? = some d) (k1 : FnOK Tryz.prog 9 [.ptr 0 0, .d (deD d)] (tkO t) (.tup []) (tkO t')) : Runs Tryz.prog 0 (loopN Tryz.prog 5 0) (St.as (IP l t j) 149) (.normal) (St.as (IP l t' (j+1)) 149) := by
  refine round_wp (p := condP (decide ((↑j : Int) < (↑(List.map deD l).length : Int))) (((0 : Int) ≤ (↑j : Int)) ∧ ((List.map deD l)[(↑j : Int).toNat]? = some (D.agg [D.int .u8 d.k, D.int .u8 d.n, D.str d.t])) ∧ (FnOK Tryz.prog 9 [AV.ptr 0 0, AV.d (.agg [D.int .u8 d.k, D.int .u8 d.n, D.str d.t])] [Ob.box (ppC t.e0 ++ (ppC t.e1 ++ [AV.own 1 8, AV.own 2 8, vS t.w0, vS t.w1, vS t.r0, vS t.r1, vI t.now])), Ob.row 8 (List.map C13.sgD t.s0), Ob.row 8 (List.map C13.sgD t.s1)] (AV.tup []) [Ob.box (ppC t'.e0 ++ (ppC t'.e1 ++ [AV.own 1 8, AV.own 2 8, vS t'.w0, vS t'.w1, vS t'.r0, vS t'.r1, vI t'.now])), Ob.row 8 (List.map C13.sgD t'.s0), Ob.row 8 (List.map C13.sgD t'.s1)]) ∧ (rf (vL (List.map deD l))) ∧ (rf (AV.ptr 0 0)) ∧ (vI (IntKind.i64.wrap ((↑j : Int) + (1 : Int))) = vI (↑(j + 1) : Int)) ∧ (rf (Ob.box (ppC t'.e0 ++ (ppC t'.e1 ++ [AV.own 1 8, AV.own 2 8, vS t'.w0, vS t'.w1, vS t'.r0, vS t'.r1, vI t'.now])))) ∧ (rf (Ob.row 8 (List.map C13.sgD t'.s0))) ∧ (rf (Ob.row 8 (List.map C13.sgD t'.s1))) ∧ True) (False)) (h := {els := [(36, .el (deD d))], H := [(9, [(5, .call [0, 1, 2] (.tup []) (tkO t'))])]}) (subs := []) (ws := []) (ρ := []) (by kernel_rfl) ?_
  have hj := get_lt hn
  have hi := inc_i64 (j := j) (by omega)
  rw [hi]
  simp only [List.length_map]
  refine condP_t (by rw [decide_eq_true_eq]; omega) ?_
  repeat' (with_reducible first | exact True.intro | apply And.intro | (first | apply zA | apply zB | apply zC | apply zD | apply zE | apply zF | apply zG) <;> intro)
  all_goals first | exact k1 | exact el_map hn rfl | rfl | omega | skip
set_option maxRecDepth 100000 in
set_option maxHeartbeats 1000000 in
theorem rDp (l : List De) (hl : l.length ≤ 100) (t t' : Tk) (j : Nat) (d : De) (hn : l[j]? = some d) (k1 : FnOK Tryz.prog 9 [.ptr 0 0, .d (deD d)] (tkO t) (.tup []) (tkP t')) : Runs Tryz.prog 0 (loopN Tryz.prog 5 0) (St.as (IP l t j) 149) (.normal) (St.as (IP l t' (j+1)) 149) := by
  refine round_wp (p := condP (decide ((↑j : Int) < (↑(List.map deD l).length : Int))) (((0 : Int) ≤ (↑j : Int)) ∧ ((List.map deD l)[(↑j : Int).toNat]? = some (D.agg [D.int .u8 d.k, D.int .u8 d.n, D.str d.t])) ∧ (FnOK Tryz.prog 9 [AV.ptr 0 0, AV.d (.agg [D.int .u8 d.k, D.int .u8 d.n, D.str d.t])] [Ob.box (ppC t.e0 ++ (ppC t.e1 ++ [AV.own 1 8, AV.own 2 8, vS t.w0, vS t.w1, vS t.r0, vS t.r1, vI t.now])), Ob.row 8 (List.map C13.sgD t.s0), Ob.row 8 (List.map C13.sgD t.s1)] (AV.tup []) [Ob.box (ppC t'.e0 ++ (ppC t'.e1 ++ [AV.own 3 8, AV.own 2 8, vS t'.w0, vS t'.w1, vS t'.r0, vS t'.r1, vI t'.now])), Ob.gone, Ob.row 8 (List.map C13.sgD t'.s1), Ob.row 8 (List.map C13.sgD t'.s0)]) ∧ (rf (vL (List.map deD l))) ∧ (rf (AV.ptr 0 0)) ∧ (vI (IntKind.i64.wrap ((↑j : Int) + (1 : Int))) = vI (↑(j + 1) : Int)) ∧ (rf (Ob.box (ppC t'.e0 ++ (ppC t'.e1 ++ [AV.own 1320 8, AV.own 2 8, vS t'.w0, vS t'.w1, vS t'.r0, vS t'.r1, vI t'.now])))) ∧ (rf (Ob.row 8 (List.map C13.sgD t'.s0))) ∧ (rf (Ob.row 8 (List.map C13.sgD t'.s1))) ∧ True) (False)) (h := {els := [(36, .el (deD d))], H := [(9, [(5, .call [0, 1, 2] (.tup []) (tkP t'))])]}) (subs := []) (ws := []) (ρ := []) (by kernel_rfl) ?_
  have hj := get_lt hn
  have hi := inc_i64 (j := j) (by omega)
  rw [hi]
  simp only [List.length_map]
  refine condP_t (by rw [decide_eq_true_eq]; omega) ?_
  repeat' (with_reducible first | exact True.intro | apply And.intro | (first | apply zA | apply zB | apply zC | apply zD | apply zE | apply zF | apply zG) <;> intro)
  all_goals first | exact k1 | exact el_map hn rfl | rfl | omega | skip
set_option maxRecDepth 100000 in
set_option maxHeartbeats 1000000 in
theorem rDq (l : List De) (hl : l.length ≤ 100) (t t' : Tk) (j : Nat) (d : De) (hn : l[j]? = some d) (k1 : FnOK Tryz.prog 9 [.ptr 0 0, .d (deD d)] (tkO t) (.tup []) (tkQ t')) : Runs Tryz.prog 0 (loopN Tryz.prog 5 0) (St.as (IP l t j) 149) (.normal) (St.as (IP l t' (j+1)) 149) := by
  refine round_wp (p := condP (decide ((↑j : Int) < (↑(List.map deD l).length : Int))) (((0 : Int) ≤ (↑j : Int)) ∧ ((List.map deD l)[(↑j : Int).toNat]? = some (D.agg [D.int .u8 d.k, D.int .u8 d.n, D.str d.t])) ∧ (FnOK Tryz.prog 9 [AV.ptr 0 0, AV.d (.agg [D.int .u8 d.k, D.int .u8 d.n, D.str d.t])] [Ob.box (ppC t.e0 ++ (ppC t.e1 ++ [AV.own 1 8, AV.own 2 8, vS t.w0, vS t.w1, vS t.r0, vS t.r1, vI t.now])), Ob.row 8 (List.map C13.sgD t.s0), Ob.row 8 (List.map C13.sgD t.s1)] (AV.tup []) [Ob.box (ppC t'.e0 ++ (ppC t'.e1 ++ [AV.own 1 8, AV.own 3 8, vS t'.w0, vS t'.w1, vS t'.r0, vS t'.r1, vI t'.now])), Ob.row 8 (List.map C13.sgD t'.s0), Ob.gone, Ob.row 8 (List.map C13.sgD t'.s1)]) ∧ (rf (vL (List.map deD l))) ∧ (rf (AV.ptr 0 0)) ∧ (vI (IntKind.i64.wrap ((↑j : Int) + (1 : Int))) = vI (↑(j + 1) : Int)) ∧ (rf (Ob.box (ppC t'.e0 ++ (ppC t'.e1 ++ [AV.own 1 8, AV.own 1320 8, vS t'.w0, vS t'.w1, vS t'.r0, vS t'.r1, vI t'.now])))) ∧ (rf (Ob.row 8 (List.map C13.sgD t'.s0))) ∧ (rf (Ob.row 8 (List.map C13.sgD t'.s1))) ∧ True) (False)) (h := {els := [(36, .el (deD d))], H := [(9, [(5, .call [0, 1, 2] (.tup []) (tkQ t'))])]}) (subs := []) (ws := []) (ρ := []) (by kernel_rfl) ?_
  have hj := get_lt hn
  have hi := inc_i64 (j := j) (by omega)
  rw [hi]
  simp only [List.length_map]
  refine condP_t (by rw [decide_eq_true_eq]; omega) ?_
  repeat' (with_reducible first | exact True.intro | apply And.intro | (first | apply zA | apply zB | apply zC | apply zD | apply zE | apply zF | apply zG) <;> intro)
  all_goals first | exact k1 | exact el_map hn rfl | rfl | omega | skip
set_option maxRecDepth 100000 in
set_option maxHeartbeats 1000000 in
theorem qD (l : List De) (t : Tk) : Runs Tryz.prog 0 (loopN Tryz.prog 5 0) (St.as (IP l t l.length) 149) (.exit 0) (St.as (IP l t l.length) 149) := by
  refine round_wp (p := condP (decide ((↑l.length : Int) < (↑(List.map deD l).length : Int))) (False) ((rf (vL (List.map deD l))) ∧ (rf (AV.ptr 0 0)) ∧ (rf (vI (↑l.length : Int))) ∧ (rf (Ob.box (ppC t.e0 ++ (ppC t.e1 ++ [AV.own 1 8, AV.own 2 8, vS t.w0, vS t.w1, vS t.r0, vS t.r1, vI t.now])))) ∧ (rf (Ob.row 8 (List.map C13.sgD t.s0))) ∧ (rf (Ob.row 8 (List.map C13.sgD t.s1))) ∧ True)) (h := {}) (subs := []) (ws := []) (ρ := []) (by kernel_rfl) ?_
  repeat' (with_reducible first | exact True.intro | apply And.intro | (first | apply zA | apply zB | apply zC | apply zD | apply zE | apply zF | apply zG) <;> intro)
  all_goals (try simp only [List.length_map, AV.d.injEq, D.int.injEq, D.bool.injEq, D.str.injEq, D.sl.injEq, true_and, and_true, decide_eq_true_eq, decide_eq_false_iff_not, decide_eq_decide])
  all_goals (try simp only [List.length_map] at *)
  all_goals first | rfl | omega
def J5 (t : Tk) (x : Pp) (j : Nat) : St := ⟨[(5, .ptr 0 0), (8, .ptr 3 0), (9, .ptr 4 0), (10, .d (.int .i64 0)), (11, .ptr 5 0), (13, .d (.bool false)), (14, .d (.int .i64 j))], [(0, tkB 1 2 t), (1, .row 8 (t.s0.map C13.sgD)), (2, .row 8 (t.s1.map C13.sgD)), (3, ppB x), (4, ppB x), (5, ppB x)]⟩
set_option maxRecDepth 100000 in
set_option maxHeartbeats 1000000 in
theorem rJ (t : Tk) (x : Pp) (hx : pDead x = true) (hl : t.s0.length < 1000000) (j : Nat) (y : C13.Sg) (hn : t.s0[j]? = some y) : Runs Tryz.prog 0 (loopN Tryz.prog 5 1) (St.as (J5 t x j) 149) (.normal) (St.as (J5 t x (j+1)) 149) := by
  refine round_wp (p := ((0 : Int) ≤ (0 : Int) ∧ (0 : Int) < (↑2 : Int)) ∧ (condP (decide ((↑j : Int) < (↑(List.map C13.sgD t.s0).length : Int))) (((0 : Int) ≤ (0 : Int) ∧ (0 : Int) < (↑2 : Int)) ∧ ((0 : Int) ≤ (↑j : Int) ∧ (↑j : Int) < (↑(List.map C13.sgD t.s0).length : Int)) ∧ (8 = 8) ∧ ((List.map C13.sgD t.s0)[(↑j : Int).toNat]? = some (C13.sgD y)) ∧ (FnOK Tryz.prog 17 [AV.d (ppD x), AV.d (C13.sgD y)] [] (AV.d (ppD x)) []) ∧ (rf (AV.ptr 0 0)) ∧ (rf (AV.ptr 3 0)) ∧ (rf (AV.ptr 4 0)) ∧ (rf (vI 0)) ∧ (rf (AV.ptr 5 0)) ∧ (rf (vB false)) ∧ (vI (IntKind.i64.wrap ((↑j : Int) + (1 : Int))) = vI (↑(j + 1) : Int)) ∧ (rf (Ob.box (ppC t.e0 ++ (ppC t.e1 ++ [AV.own 1 8, AV.own 2 8, vS t.w0, vS t.w1, vS t.r0, vS t.r1, vI t.now])))) ∧ (rf (Ob.row 8 (List.map C13.sgD t.s0))) ∧ (rf (Ob.row 8 (List.map C13.sgD t.s1))) ∧ (rf (ppB x)) ∧ (rf (ppB x)) ∧ (rf (ppB x)) ∧ True) (False))) (h := {els := [(75, .el (C13.sgD y))], H := [(16, [(9, .call [] (.d (ppD x)) [])])]}) (subs := []) (ws := []) (ρ := []) (by kernel_rfl) ?_
  have hj := get_lt hn
  have hi := inc_i64 (j := j) (by omega)
  have k1 := on17d x y hx
  have hx2 : (t.s0.map C13.sgD)[j]? = some (C13.sgD y) := el_map hn rfl
  rw [hi]
  simp only [List.length_map]
  refine ⟨by omega, condP_t (by rw [decide_eq_true_eq]; omega) ?_⟩
  repeat' (with_reducible first | exact True.intro | apply And.intro | (first | apply zA | apply zB | apply zC | apply zD | apply zE | apply zF | apply zG) <;> intro)
  all_goals first | exact k1 | exact hx2 | exact el_map hn rfl | rfl | omega | skip
set_option maxRecDepth 100000 in
set_option maxHeartbeats 1000000 in
theorem qJ (t : Tk) (x : Pp) : Runs Tryz.prog 0 (loopN Tryz.prog 5 1) (St.as (J5 t x t.s0.length) 149) (.exit 2) (St.as (J5 t x t.s0.length) 149) := by
  refine round_wp (p := ((0 : Int) ≤ (0 : Int) ∧ (0 : Int) < (↑2 : Int)) ∧ (condP (decide ((↑t.s0.length : Int) < (↑(List.map C13.sgD t.s0).length : Int))) (False) ((rf (AV.ptr 0 0)) ∧ (rf (AV.ptr 3 0)) ∧ (rf (AV.ptr 4 0)) ∧ (rf (vI 0)) ∧ (rf (AV.ptr 5 0)) ∧ (rf (vB false)) ∧ (rf (vI (↑t.s0.length : Int))) ∧ (rf (Ob.box (ppC t.e0 ++ (ppC t.e1 ++ [AV.own 1 8, AV.own 2 8, vS t.w0, vS t.w1, vS t.r0, vS t.r1, vI t.now])))) ∧ (rf (Ob.row 8 (List.map C13.sgD t.s0))) ∧ (rf (Ob.row 8 (List.map C13.sgD t.s1))) ∧ (rf (ppB x)) ∧ (rf (ppB x)) ∧ (rf (ppB x)) ∧ True))) (h := {}) (subs := []) (ws := []) (ρ := []) (by kernel_rfl) ?_
  repeat' (with_reducible first | exact True.intro | apply And.intro | (first | apply zA | apply zB | apply zC | apply zD | apply zE | apply zF | apply zG) <;> intro)
  all_goals (try simp only [List.length_map, AV.d.injEq, D.int.injEq, D.bool.injEq, D.str.injEq, D.sl.injEq, true_and, and_true, decide_eq_true_eq, decide_eq_false_iff_not, decide_eq_decide])
  all_goals (try simp only [List.length_map] at *)
  all_goals first | rfl | omega
set_option maxRecDepth 100000 in
set_option maxHeartbeats 1000000 in
theorem dead5n (a b : Int) (l : List De) (h : fewB l 60 = false) : FnOK Tryz.prog 5 ([.d (.agg [.int .u32 a, .int .u32 b]), .d (.sl (l.map deD))]) ([]) (.d (.bool true)) ([]) := by
  refine fnOK_wp (p := (FnOK Tryz.prog 6 [vL (List.map deD l), vI 60] [] (vB false) []) ∧ (FnOK Tryz.prog 7 [] [] (vB true) []) ∧ (rf (vB true)) ∧ True) (h := {G := [(6, gA (.d (.bool false))), (7, gA (.d (.bool true)))]}) (subs := []) (ws := []) (ρ := []) (by kernel_rfl) ?_
  have k1 := few6 l 60 (by decide)
  rw [h] at k1
  repeat' (with_reducible first | exact True.intro | apply And.intro | (first | apply zA | apply zB | apply zC | apply zD | apply zE | apply zF | apply zG) <;> intro)
  all_goals first | exact k1 | exact aw7 | rfl | skip
set_option maxRecDepth 100000 in
set_option maxHeartbeats 1000000 in
theorem dead5 (a b : Int) (l : List De) (t : Tk) (h : fewB l 60 = true) (hL : Loops Tryz.prog 0 (loopN Tryz.prog 5 0) ((IP l (t0 a b) 0).as 149) (.exit 0) ((IP l t l.length).as 149)) (x x2 : Pp) (s : List UInt8) (m : Int) (k3 : FnOK Tryz.prog 14 [.d (ppD t.e1)] [] (.d (ppD x)) []) (k4 : FnOK Tryz.prog 15 [.d (ppD x), .d (.str [109, 111, 114, 101])] [] (.tup [.d (ppD x), .d (.int .i64 0)]) []) (k5 : FnOK Tryz.prog 16 [.d (ppD x)] [] (.tup [.d (ppD x), .d (C13.sgD C13.sgZ), .d (.bool false)]) []) (hL2 : Loops Tryz.prog 0 (loopN Tryz.prog 5 1) ((J5 t x 0).as 149) (.exit 2) ((J5 t x t.s0.length).as 149)) (k6 : FnOK Tryz.prog 18 [.d (ppD t.e1)] [] (.d (.int .i64 m)) []) (k7 : FnOK Tryz.prog 19 [.d (ppD x), .d (.int .i64 4096)] [] (.tup [.d (ppD x2), .d (.str s)]) []) (k8 : FnOK Tryz.prog 20 [.d (ppD x), .d (ppD x)] [] (.d (.bool true)) []) (k9 : FnOK Tryz.prog 12 [.d (ppD x2)] [] (.d (.bool false)) []) (k10 : FnOK Tryz.prog 21 [.d (ppD x2)] [] (.d (.int .i64 0)) []) (hm : (s.length : Int) = m) (hg : t.r1.length + s.length ≤ t.w0.length) (hw : t.w0.length < 1000000) (he : t.w0.take (t.r1 ++ s).length = t.r1 ++ s) : FnOK Tryz.prog 5 ([.d (.agg [.int .u32 a, .int .u32 b]), .d (.sl (l.map deD))]) ([]) (.d (.bool true)) ([]) := by
  refine fnOK_wp (p := (FnOK Tryz.prog 6 [vL (List.map deD l), vI 60] [] (vB true) []) ∧ (FnOK Tryz.prog 8 [AV.d (.agg [D.int .u32 a, D.int .u32 b])] [] (AV.tup [AV.ptr 0 0, vB true]) [Ob.box [vU (t0 a b).e0.sh.g, vI (t0 a b).e0.sh.p, vI (t0 a b).e0.sh.e, vW (t0 a b).e0.sh.m, vW (t0 a b).e0.sh.h, vI (t0 a b).e0.sq.b, vS (t0 a b).e0.sq.d, vI (t0 a b).e0.sq.n, vL [], vL [], vI (t0 a b).e0.rq.b, vS (t0 a b).e0.rq.r, vL [], vI (t0 a b).e0.rt.s, vI (t0 a b).e0.rt.v, vB false, vI (t0 a b).e0.rt.h, vI (t0 a b).e0.wn.w, vI (t0 a b).e0.wn.t, vI (t0 a b).e0.wn.p, vI (t0 a b).e0.li, vI (t0 a b).e0.no, vI (t0 a b).e0.he, vI (t0 a b).e0.nx, vI (t0 a b).e0.pr, vB false, vU (t0 a b).e1.sh.g, vI (t0 a b).e1.sh.p, vI (t0 a b).e1.sh.e, vW (t0 a b).e1.sh.m, vW (t0 a b).e1.sh.h, vI (t0 a b).e1.sq.b, vS (t0 a b).e1.sq.d, vI (t0 a b).e1.sq.n, vL [], vL [], vI (t0 a b).e1.rq.b, vS (t0 a b).e1.rq.r, vL [], vI (t0 a b).e1.rt.s, vI (t0 a b).e1.rt.v, vB false, vI (t0 a b).e1.rt.h, vI (t0 a b).e1.wn.w, vI (t0 a b).e1.wn.t, vI (t0 a b).e1.wn.p, vI (t0 a b).e1.li, vI (t0 a b).e1.no, vI (t0 a b).e1.he, vI (t0 a b).e1.nx, vI (t0 a b).e1.pr, vB false, AV.own 1 8, AV.own 2 8, vS (t0 a b).w0, vS (t0 a b).w1, vS (t0 a b).r0, vS (t0 a b).r1, vI (t0 a b).now], Ob.row 8 [], Ob.row 8 []]) ∧ (rf (vL (List.map deD l))) ∧ (rf (AV.ptr 1192 0)) ∧ (rf (vI 0)) ∧ (rf (Ob.box [vU (t0 a b).e0.sh.g, vI (t0 a b).e0.sh.p, vI (t0 a b).e0.sh.e, vW (t0 a b).e0.sh.m, vW (t0 a b).e0.sh.h, vI (t0 a b).e0.sq.b, vS (t0 a b).e0.sq.d, vI (t0 a b).e0.sq.n, vL [], vL [], vI (t0 a b).e0.rq.b, vS (t0 a b).e0.rq.r, vL [], vI (t0 a b).e0.rt.s, vI (t0 a b).e0.rt.v, vB false, vI (t0 a b).e0.rt.h, vI (t0 a b).e0.wn.w, vI (t0 a b).e0.wn.t, vI (t0 a b).e0.wn.p, vI (t0 a b).e0.li, vI (t0 a b).e0.no, vI (t0 a b).e0.he, vI (t0 a b).e0.nx, vI (t0 a b).e0.pr, vB false, vU (t0 a b).e1.sh.g, vI (t0 a b).e1.sh.p, vI (t0 a b).e1.sh.e, vW (t0 a b).e1.sh.m, vW (t0 a b).e1.sh.h, vI (t0 a b).e1.sq.b, vS (t0 a b).e1.sq.d, vI (t0 a b).e1.sq.n, vL [], vL [], vI (t0 a b).e1.rq.b, vS (t0 a b).e1.rq.r, vL [], vI (t0 a b).e1.rt.s, vI (t0 a b).e1.rt.v, vB false, vI (t0 a b).e1.rt.h, vI (t0 a b).e1.wn.w, vI (t0 a b).e1.wn.t, vI (t0 a b).e1.wn.p, vI (t0 a b).e1.li, vI (t0 a b).e1.no, vI (t0 a b).e1.he, vI (t0 a b).e1.nx, vI (t0 a b).e1.pr, vB false, AV.own 1193 8, AV.own 1194 8, vS (t0 a b).w0, vS (t0 a b).w1, vS (t0 a b).r0, vS (t0 a b).r1, vI (t0 a b).now])) ∧ (rf (Ob.row 8 [])) ∧ (rf (Ob.row 8 [])) ∧ (LoopsS Tryz.prog 0 (loopN Tryz.prog 5 0) (IP l (t0 a b) 0) (Exit.exit 0) (IP l t l.length) 149) ∧ ((0 : Int) ≤ (1 : Int) ∧ (1 : Int) < (↑2 : Int)) ∧ (FnOK Tryz.prog 14 [AV.d (ppD t.e1)] [] (AV.d (ppD x)) []) ∧ (FnOK Tryz.prog 15 [AV.d (ppD x), vS [(109 : UInt8), (111 : UInt8), (114 : UInt8), (101 : UInt8)]] [] (AV.tup [AV.d (ppD x), vI 0]) []) ∧ (FnOK Tryz.prog 16 [AV.d (ppD x)] [] (AV.tup [AV.d (ppD x), AV.d (.agg [D.int .u8 0, D.int .i64 0, D.int .i64 0, D.int .u32 0, D.int .u32 0, D.int .i64 0, D.sl [], D.str []]), vB false]) []) ∧ (rf (AV.ptr 0 0)) ∧ (rf (AV.ptr 1064 0)) ∧ (rf (AV.ptr 1072 0)) ∧ (rf (vI 0)) ∧ (rf (AV.ptr 1088 0)) ∧ (rf (vB false)) ∧ (rf (vI 0)) ∧ (rf (Ob.box (ppC t.e0 ++ (ppC t.e1 ++ [AV.own 1 8, AV.own 2 8, vS t.w0, vS t.w1, vS t.r0, vS t.r1, vI t.now])))) ∧ (rf (Ob.row 8 (List.map C13.sgD t.s0))) ∧ (rf (Ob.row 8 (List.map C13.sgD t.s1))) ∧ (rf (ppB x)) ∧ (rf (ppB x)) ∧ (rf (ppB x)) ∧ (LoopsS Tryz.prog 0 (loopN Tryz.prog 5 1) (J5 t x 0) (Exit.exit 2) (J5 t x t.s0.length) 149) ∧ ((0 : Int) ≤ (1 : Int) ∧ (1 : Int) < (↑2 : Int)) ∧ (FnOK Tryz.prog 18 [AV.d (ppD t.e1)] [] (vI m) []) ∧ (FnOK Tryz.prog 19 [AV.d (ppD x), vI 4096] [] (AV.tup [AV.d (ppD x2), vS s]) []) ∧ ((0 : Int) ≤ (1 : Int) ∧ (1 : Int) < (↑2 : Int)) ∧ ((↑(t.r1.length + s.length) : Int) ≤ (9223372036854775807 : Int)) ∧ (rf (D.bool true)) ∧ (rf (D.bool true)) ∧ (rf (D.bool true)) ∧ (rf (D.bool true)) ∧ (FnOK Tryz.prog 20 [AV.d (ppD x), AV.d (ppD x)] [] (vB true) []) ∧ (rf (D.bool true)) ∧ (rf (D.bool true)) ∧ (D.bool ((↑s.length : Int) == m) = D.bool true) ∧ (rf (D.bool true)) ∧ (rf (D.bool true)) ∧ ((0 : Int) ≤ (0 : Int) ∧ (0 : Int) < (↑2 : Int)) ∧ (D.bool (decide ((↑(t.r1 ++ s).length : Int) ≤ (↑t.w0.length : Int))) = D.bool true) ∧ (rf (D.bool true)) ∧ (rf (D.bool true)) ∧ ((0 : Int) ≤ (0 : Int) ∧ (0 : Int) < (↑2 : Int)) ∧ ((0 : Int) ≤ (0 : Int) ∧ (0 : Int) ≤ (↑(t.r1 ++ s).length : Int) ∧ (↑(t.r1 ++ s).length : Int) ≤ (↑t.w0.length : Int)) ∧ (D.bool (List.drop 0 (List.take (↑(t.r1 ++ s).length : Int).toNat t.w0) == t.r1 ++ s) = D.bool true) ∧ (rf (D.bool true)) ∧ (rf (D.bool true)) ∧ (FnOK Tryz.prog 12 [AV.d (ppD x2)] [] (vB false) []) ∧ (rf (D.bool true)) ∧ (rf (D.bool true)) ∧ (FnOK Tryz.prog 21 [AV.d (ppD x2)] [] (vI 0) []) ∧ (rf (D.bool true)) ∧ (rf (D.bool true)) ∧ (rf (D.bool true)) ∧ (FnOK Tryz.prog 7 [] [] (vB true) []) ∧ (rf (D.bool true)) ∧ (rf (vB true)) ∧ True) (h := {chain := true, H := [(1, [(1, .call [] (.d (.bool true)) [])]), (3, [(1, .call [] (.tup [.ptr 0 0, .d (.bool true)]) (tkO (t0 a b)))]), (10, [(5, .call [] (.d (ppD x)) [])]), (11, [(1, .call [] (.tup [.d (ppD x), .d (.int .i64 0)]) [])]), (12, [(1, .call [] (.tup [.d (ppD x), .d (C13.sgD C13.sgZ), .d (.bool false)]) [])]), (17, [(5, .call [] (.d (.int .i64 m)) [])]), (18, [(1, .call [] (.tup [.d (ppD x2), .d (.str s)]) [])]), (20, [(1, .val (.bool true)), (5, .val (.bool true)), (9, .call [] (.d (.bool true)) []), (10, .val (.bool true)), (15, .val (.bool true)), (16, .val (.bool true)), (26, .val (.bool true)), (27, .val (.bool true)), (38, .val (.bool true)), (39, .val (.bool true)), (42, .call [] (.d (.bool false)) []), (44, .val (.bool true)), (47, .call [] (.d (.int .i64 0)) []), (48, .val (.bool true)), (49, .val (.bool true)), (51, .call [] (.d (.bool true)) []), (52, .val (.bool true))])]}) (subs := [⟨[], [], IP l (t0 a b) 0, .exit 0, IP l t l.length⟩, ⟨[], [], J5 t x 0, .exit 2, J5 t x t.s0.length⟩]) (ws := []) (ρ := []) (by kernel_rfl) ?_
  have k1 := few6 l 60 (by decide)
  rw [h] at k1
  have k2 := begun8 a b
  repeat' (with_reducible first | exact True.intro | apply And.intro | (first | apply zA | apply zB | apply zC | apply zD | apply zE | apply zF | apply zG) <;> intro)
  all_goals first | exact k1 | exact k2 | exact aw7 | exact hL | exact hL2 | exact k3 | exact k4 | exact k5 | exact k6 | exact k7 | exact k8 | exact k9 | exact k10 | rfl | (refine congrArg D.bool ?_; rw [List.drop_zero, Int.toNat_natCast, he]; exact beq_self_eq_true _) | (rw [List.length_append]; omega) | omega | (refine congrArg D.bool ?_; simp [*]; done) | (refine congrArg D.bool ?_; rw [decide_eq_true_eq, List.length_append]; omega) | skip
theorem stepD {m0 m1 : Int} {t : Tk} {j : Nat} (h : TI m0 m1 t j) (l : List De) (hl : l.length ≤ 100) (hx : ∀ d ∈ l, DeOk d) (hs : ∀ d ∈ l, d.t.length ≤ 200) (d : De) (hn : l[j]? = some d) :
    Runs Tryz.prog 0 (loopN Tryz.prog 5 0) ((IP l t j).as 149) .normal ((IP l (tDeed t d) (j + 1)).as 149) := by
  have hj := get_lt hn
  have hm := get_mem hn
  rcases deed9 h (by omega) d (hs d hm) (hx d hm).1 (hx d hm).2 with k | k | k
  · exact rDo l hl t _ j d hn k
  · exact rDp l hl t _ j d hn k
  · exact rDq l hl t _ j d hn k
theorem read_all {q : C12.Rq} (h : C12.Ok q) : (C12.rRead q 4096).2 = q.r := by
  have hb := h.b
  unfold C12.rRead
  split
  · next g =>
    rcases g with g | g
    · exact absurd (C12.ok_iff.2 h) g
    · omega
  · show q.r.take _ = _
    rw [List.take_of_length_le (by omega)]
theorem pipeDead_ok (x0 : D) (s0 : ∃ ds, CK.hasL [.int .u32, .int .u32] ds ∧ (if true then x0 = .agg ds else ds = [x0])) (x1 : D) (s1 : ∃ ds, CK.hasL [.sl true [.int .u8, .int .u8, .str]] ds ∧ (if false then x1 = .agg ds else ds = [x1])) :
    FnOK Tryz.prog 5 [.d x0, .d x1] [] (.d (.bool true)) [] := by
  obtain ⟨a, b, rfl, ha, hb⟩ := two_of x0 s0
  obtain ⟨l, rfl, hx⟩ := des_of x1 s1
  cases hf : fewB l 60
  · exact dead5n a b l hf
  · obtain ⟨hl, hs⟩ := fewB_iff.1 hf
    have hL := loops_n (P := Tryz.prog) (k := 0) (c := loopN Tryz.prog 5 0) (e := .exit 0) (I := fun j => (IP l (tn a b l j) j).as 149) (by simp) l.length 0 (by omega) (fun j _ hj => by
      have hn := get_of hj
      have := stepD (ti_tn ha hb (by omega) hs j (by omega)) l (by omega) hx hs _ hn
      rw [← tn_succ hn] at this
      exact this) (qD l _)
    have hT := ti_tn ha hb (by omega) hs l.length (Nat.le_refl _)
    generalize tn a b l l.length = t at hL hT
    have p1 := endI_r hT.e1 hT.r1
    have hc : C13.nChk t.e1.sh = 0 := hT.e1.sh.chk
    have hd : pDead (pKill t.e1) = true := by
      show ((C13.nAt t.e1.sh 4).g == 4) = true
      rw [C13.nAt_yes hc]; rfl
    have pk : PpR (pKill t.e1) := ⟨p1.sq, p1.fl, p1.cm, p1.rq, p1.rb, p1.rp, p1.rh, p1.wn, p1.li⟩
    have k4 := write15y (pKill t.e1) [109, 111, 114, 101] hd
    have k5 := out16 (pKill t.e1) pk
    have eo : pOut (pKill t.e1) = (pKill t.e1, C13.sgZ, false) := by
      have hg : (pKill t.e1).sh.g = 4 := beq_iff_eq.1 hd
      have hu : pUp (pKill t.e1) = false := by unfold pUp; rw [hg]; rfl
      have hs : C13.nSays (pKill t.e1).sh = false := by
        unfold C13.nSays
        rw [hg]
        simp
      unfold pOut
      rw [if_neg (by rw [hu]; simp)]
      unfold pGreet
      rw [if_pos (.inl hs)]
    rw [eo] at k5
    have hL2 := loops_n (P := Tryz.prog) (k := 0) (c := loopN Tryz.prog 5 1) (e := .exit 2) (I := fun j => (J5 t (pKill t.e1) j).as 149) (by simp) t.s0.length 0 (by omega) (fun j _ hj => rJ t _ hd (by have := hT.sl; omega) j _ (get_of hj)) (qJ t _)
    have hR := endI_read (s := pKill t.e1) (endI_kill hT.e1) hT.r1 4096
    have es : (pRead (pKill t.e1) 4096).2 = t.e1.rq.r := read_all hT.r1.ok
    have k7 := read19 (pKill t.e1) p1.rq p1.rb (by have := p1.rp; show t.e1.rq.p.length < _; omega) 4096
    have hle := ri_len hR.2
    have hwh := ri_whole hR.2
    have hd2 : (pRead (pKill t.e1) 4096).1.sh.g = 4 := beq_iff_eq.1 hd
    refine dead5 a b l t hf hL _ _ _ _ (kill14 t.e1) k4 k5 hL2 (ready18 t.e1) k7 ?_ ?_ ?_ ?_ ?_ ?_ hwh
    · have := same20 (pKill t.e1) p1.sq (by have := p1.rp; show t.e1.rq.p.length < _; omega) (pKill t.e1).du
      rw [beq_self_eq_true] at this
      exact this
    · have := alive12 (pRead (pKill t.e1) 4096).1
      rw [show pUp (pRead (pKill t.e1) 4096).1 = false by unfold pUp; rw [hd2]; rfl] at this
      exact this
    · have := room21 (pRead (pKill t.e1) 4096).1
      rw [show pRoom (pRead (pKill t.e1) 4096).1 = 0 by unfold pRoom pDead; rw [hd2]; rfl] at this
      exact this
    · rw [es]
    · rw [List.length_append] at hle; exact hle
    · have := hT.wl; omega
end Go.Proofs.YtalpfhpeaaocmaaGreat
end
section
namespace Go.Proofs.YtalpfhpeaaocmaaGreat.pipeDead
open Go.ChangeShapes Go.WideShapes Go.ChangeAt Go.RowKit Go.Proofs.YtalpfhpeaaocmaaGreat.Sx
theorem own : ownKnob Tryz.prog.godebug = none := by kernel_rfl
theorem laidOut : laidOutB Tryz.prog = true := by kernel_rfl
theorem sh0 : Sx.shape Tryz.prog 8 23 = some (true, [.int .u32, .int .u32]) := by kernel_rfl
theorem sh1 : Sx.shape Tryz.prog 8 24 = some (false, [.sl true [.int .u8, .int .u8, .str]]) := by kernel_rfl
set_option maxRecDepth 100000 in
theorem lifted (os : Os) (started : os.Started) (H : Type) (enc : TypeId × Value → H) :
    ReturnsInHanded {} Tryz.checked os 5 .any (Rows.pipeDeadSpec.pre6 enc Tryz.prog Tryz.f5 Rows.pipeDeadRow.domain false) (Rows.pipeDeadSpec.post enc Tryz.prog Tryz.f5 false true false false) := by
  refine returnsInHanded_of_change (C := Tryz.checked) own started (by kernel_rfl) Tryz.func5
    (ChangeSpec.witness6 (enc := enc) (C := Tryz.checked) false ⟨#[], #[.agg #[.int .u32 0, .int .u32 0], .slice none 0 0], []⟩ 8 (by kernel_rfl) (by kernel_rfl) (by kernel_rfl) (by kernel_rfl)) ?_
  intro W base args ds gs before hval0 hW hcnd _
  have hval : ∀ (j : Nat) t v, Tryz.f5.params[j]? = some t → args[j]? = some v → Value.okWide Tryz.prog W .any base t v := hval0
  have hW' := hW
  obtain ⟨p, q, hA0, hV, rfl, hfz, hnd⟩ := hW
  have hA : DataW.TrodAll enc Tryz.prog W 0 (fun _ => true) true Tryz.f5.params.toList args.toList ds p := hA0
  rw [Tryz.params5] at hA hval
  obtain ⟨v0, vs0, d0, ds0, p0, q0, hargs, rfl, rfl, h0, r0⟩ := trodAll_cons hA
  obtain ⟨v1, vs1, d1, ds1, p1, q1, rfl, rfl, rfl, h1, r1⟩ := trodAll_cons r0
  obtain ⟨rfl, rfl, rfl⟩ := trodAll_nil r1
  obtain rfl : args = #[v0, v1] := by cases args; simp_all
  obtain ⟨rfl, rfl⟩ := trodVars_none hV
  obtain ⟨x0, s0, w0⟩ := arg_rep sh0 (hval 0 23 v0 rfl rfl) h0
  have lt0 : ∀ x ∈ p0, x.block < W.heap.size := by obtain ⟨m, hm⟩ := h0; exact DataW.trod_lt m _ _ _ hm
  obtain ⟨x1, s1, w1⟩ := arg_rep sh1 (hval 1 24 v1 rfl rfl) h1
  have lt1 : ∀ x ∈ p1, x.block < W.heap.size := by obtain ⟨m, hm⟩ := h1; exact DataW.trod_lt m _ _ _ hm
  clear hA0 hval0
  refine (calls_of_fnOK (ds := [x0, x1]) (pipeDead_ok x0 s0 x1 s1) rfl (fun j d hj => by
    cases j with | zero => cases hj; exact w0 | succ j =>
    cases j with | zero => cases hj; exact w1 | succ j =>
    simp at hj)).mono fun e W' ⟨he, bel⟩ => ?_
  subst he
  exact ⟨_, rfl, _, _, _, [], _, [], hW', trodAll_mk1 (shut_bool (by kernel_rfl) _), (trodAll_cons_mk (Below.trod laidOut (by kernel_rfl) (of_decide_eq_true (by kernel_rfl)) h0 bel lt0) (trodAll_cons_mk (Below.trod laidOut (by kernel_rfl) (of_decide_eq_true (by kernel_rfl)) h1 bel lt1) trodAll_mk0)), rfl, bel.frame _, fun h => by cases h⟩
theorem over : Rows.pipeDeadRow.holds Tryz.pinned (OpenSpec.ofChange Rows.pipeDeadSpec) :=
  OpenClaim.holds_of_wide 5 Tryz.f5 rfl rfl rfl rfl rfl rfl rfl ⟨rfl, rfl, rfl, rfl, rfl⟩ rfl rfl rfl rfl rfl (by kernel_rfl) Tryz.func5 (by kernel_rfl)
    (of_decide_eq_true (by kernel_rfl)) (by unfold Func.isWrapper; first | (rw [if_pos (by decide +kernel)]; kernel_rfl) | (rw [if_neg (by decide +kernel)]; exact ⟨rfl, rfl⟩))
    (fun os started H enc _ => lifted os started H enc)
theorem holds : Rows.PipeDeadSaid := over
end Go.Proofs.YtalpfhpeaaocmaaGreat.pipeDead
end
