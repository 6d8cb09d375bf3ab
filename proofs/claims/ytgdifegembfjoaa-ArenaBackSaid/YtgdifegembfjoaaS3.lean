/-
laws 18: whether cells may be, as the document tells it.
-/
import Derived.Test.YtgdifegembfjoaaS2
set_option linter.unusedSimpArgs false
set_option linter.unusedVariables false
namespace Go.Proofs.Ytgdifegembfjoaa
open Sx Go.RowKit

def J0 (s : Ar) (t j : Nat) : St := ⟨[(1, .ptr 0 0), (t, .d (.int .i64 j))], [(0, arB s)]⟩
def R2 (r : Int) : St := ⟨[(2, .d (.int .i64 r))], []⟩
set_option maxRecDepth 100000 in
set_option maxHeartbeats 1000000 in
theorem ra (s : Ar) (hl : s.l.length < 1000000) (j : Nat) (c : Ce) (hn : s.l[j]? = some c) (hx : aStray s.l c = false) : Runs Try.prog 0 (loopN Try.prog 20 0) (St.as (J0 s 3 j) 120) (.normal) (St.as (J0 s 3 (j+1)) 120) := by
  refine round_wp (p := condP (decide ((↑j : Int) < (↑(List.map ceD s.l).length : Int))) (condP (!c.v) (((0 : Int) ≤ (↑j : Int)) ∧ (((List.map ceD s.l)[(↑j : Int).toNat]? = some (D.agg [D.bool c.v, D.int IntKind.i64 c.x, D.int IntKind.i64 c.l])) ∧ (((D.bool !c.v) = D.bool true) ∧ (((0 : Int) ≤ (↑j : Int)) ∧ (((List.map ceD s.l)[(↑j : Int).toNat]? = some (D.agg [D.bool c.v, D.int IntKind.i64 c.x, D.int IntKind.i64 c.l])) ∧ ((FnOK Try.prog (38 : Nat) [AV.d (D.agg [D.sl (List.map ceD s.l), D.int IntKind.i64 s.f, D.int IntKind.i64 s.u]), AV.d (D.int IntKind.i64 c.l)] [] (AV.d (D.bool (aPlace s.l c.l))) []) ∧ (condP (!aPlace s.l c.l) (False) ((AV.ptr (0 : Nat) (0 : Nat) = AV.ptr (0 : Nat) (0 : Nat)) ∧ ((AV.d (D.int IntKind.i64 (IntKind.i64.wrap ((↑j : Int) + (1 : Int)))) = AV.d (D.int IntKind.i64 (↑(j + (1 : Nat)) : Int))) ∧ ((Ob.box [AV.d (D.sl (List.map ceD s.l)), AV.d (D.int IntKind.i64 s.f), AV.d (D.int IntKind.i64 s.u)] = Ob.box [AV.d (D.sl (List.map ceD s.l)), AV.d (D.int IntKind.i64 s.f), AV.d (D.int IntKind.i64 s.u)]) ∧ (True))))))))))) (((0 : Int) ≤ (↑j : Int)) ∧ (((List.map ceD s.l)[(↑j : Int).toNat]? = some (D.agg [D.bool c.v, D.int IntKind.i64 c.x, D.int IntKind.i64 c.l])) ∧ (((D.bool !c.v) = D.bool false) ∧ ((AV.ptr (0 : Nat) (0 : Nat) = AV.ptr (0 : Nat) (0 : Nat)) ∧ ((AV.d (D.int IntKind.i64 (IntKind.i64.wrap ((↑j : Int) + (1 : Int)))) = AV.d (D.int IntKind.i64 (↑(j + (1 : Nat)) : Int))) ∧ ((Ob.box [AV.d (D.sl (List.map ceD s.l)), AV.d (D.int IntKind.i64 s.f), AV.d (D.int IntKind.i64 s.u)] = Ob.box [AV.d (D.sl (List.map ceD s.l)), AV.d (D.int IntKind.i64 s.f), AV.d (D.int IntKind.i64 s.u)]) ∧ (True)))))))) (False)) (h := {els := [(27, .el (ceD c)), (36, .el (ceD c))], G := [(38, gAns (.d (.bool (aPlace s.l c.l))))]}) (subs := []) (ws := []) (ρ := []) (by kernel_rfl) ?_
  have hj := get_lt hn
  have hi := inc_i64 (j := j) (by omega)
  have k1 := place38 s c.l
  try rw [hi]
  refine condP_t (by rw [decide_eq_true_eq, List.length_map]; omega) ?_
  unfold aStray at hx
  generalize aPlace s.l c.l = q at *
  repeat' (first | with_reducible exact True.intro | with_reducible refine And.intro ?_ ?_ | with_reducible refine condP_dec (fun _ => ?_) (fun _ => ?_) | with_reducible refine condP_eq (fun _ => ?_) (fun _ => ?_) | with_reducible refine condP_ne (fun _ => ?_) (fun _ => ?_) | with_reducible refine condP_not (condP_dec (fun _ => ?_) (fun _ => ?_)) | with_reducible refine condP_not (condP_eq (fun _ => ?_) (fun _ => ?_)) | with_reducible refine condP_not (condP_intro (fun _ => ?_) (fun _ => ?_)) | with_reducible refine condP_intro (fun _ => ?_) (fun _ => ?_))
  all_goals first | exact k1 | exact el_map hn rfl | rfl | omega | (exfalso; simp_all; done) | (simp_all; done) | skip

set_option maxRecDepth 100000 in
set_option maxHeartbeats 1000000 in
theorem ea (s : Ar) (hl : s.l.length < 1000000) (j : Nat) (c : Ce) (hn : s.l[j]? = some c) (hx : aStray s.l c = true) : Runs Try.prog 0 (loopN Try.prog 20 0) (St.as (J0 s 3 j) 120) (.ret) (St.as (R2 8) 120) := by
  refine round_wp (p := condP (decide ((↑j : Int) < (↑(List.map ceD s.l).length : Int))) (condP (!c.v) (((0 : Int) ≤ (↑j : Int)) ∧ (((List.map ceD s.l)[(↑j : Int).toNat]? = some (D.agg [D.bool c.v, D.int IntKind.i64 c.x, D.int IntKind.i64 c.l])) ∧ (((D.bool !c.v) = D.bool true) ∧ (((0 : Int) ≤ (↑j : Int)) ∧ (((List.map ceD s.l)[(↑j : Int).toNat]? = some (D.agg [D.bool c.v, D.int IntKind.i64 c.x, D.int IntKind.i64 c.l])) ∧ ((FnOK Try.prog (38 : Nat) [AV.d (D.agg [D.sl (List.map ceD s.l), D.int IntKind.i64 s.f, D.int IntKind.i64 s.u]), AV.d (D.int IntKind.i64 c.l)] [] (AV.d (D.bool (aPlace s.l c.l))) []) ∧ (condP (!aPlace s.l c.l) ((AV.d (D.int IntKind.i64 (8 : Int)) = AV.d (D.int IntKind.i64 (8 : Int))) ∧ (True)) (False)))))))) (((0 : Int) ≤ (↑j : Int)) ∧ (((List.map ceD s.l)[(↑j : Int).toNat]? = some (D.agg [D.bool c.v, D.int IntKind.i64 c.x, D.int IntKind.i64 c.l])) ∧ (((D.bool !c.v) = D.bool false) ∧ (False))))) (False)) (h := {els := [(27, .el (ceD c)), (36, .el (ceD c))], G := [(38, gAns (.d (.bool (aPlace s.l c.l))))]}) (subs := []) (ws := []) (ρ := []) (by kernel_rfl) ?_
  have hj := get_lt hn
  have hi := inc_i64 (j := j) (by omega)
  have k1 := place38 s c.l
  try rw [hi]
  refine condP_t (by rw [decide_eq_true_eq, List.length_map]; omega) ?_
  unfold aStray at hx
  generalize aPlace s.l c.l = q at *
  repeat' (first | with_reducible exact True.intro | with_reducible refine And.intro ?_ ?_ | with_reducible refine condP_dec (fun _ => ?_) (fun _ => ?_) | with_reducible refine condP_eq (fun _ => ?_) (fun _ => ?_) | with_reducible refine condP_ne (fun _ => ?_) (fun _ => ?_) | with_reducible refine condP_not (condP_dec (fun _ => ?_) (fun _ => ?_)) | with_reducible refine condP_not (condP_eq (fun _ => ?_) (fun _ => ?_)) | with_reducible refine condP_not (condP_intro (fun _ => ?_) (fun _ => ?_)) | with_reducible refine condP_intro (fun _ => ?_) (fun _ => ?_))
  all_goals first | exact k1 | exact el_map hn rfl | rfl | omega | (exfalso; simp_all; done) | (simp_all; done) | skip

set_option maxRecDepth 100000 in
set_option maxHeartbeats 1000000 in
theorem qa (s : Ar) : Runs Try.prog 0 (loopN Try.prog 20 0) (St.as (J0 s 3 s.l.length) 120) (.exit 0) (St.as (J0 s 3 s.l.length) 120) := by
  refine round_wp (p := condP (decide ((↑s.l.length : Int) < (↑(List.map ceD s.l).length : Int))) (False) ((AV.ptr (0 : Nat) (0 : Nat) = AV.ptr (0 : Nat) (0 : Nat)) ∧ ((AV.d (D.int IntKind.i64 (↑s.l.length : Int)) = AV.d (D.int IntKind.i64 (↑s.l.length : Int))) ∧ ((Ob.box [AV.d (D.sl (List.map ceD s.l)), AV.d (D.int IntKind.i64 s.f), AV.d (D.int IntKind.i64 s.u)] = Ob.box [AV.d (D.sl (List.map ceD s.l)), AV.d (D.int IntKind.i64 s.f), AV.d (D.int IntKind.i64 s.u)]) ∧ (True))))) (h := {}) (subs := []) (ws := []) (ρ := []) (by kernel_rfl) ?_
  repeat' (first | with_reducible exact True.intro | with_reducible refine And.intro ?_ ?_ | with_reducible refine condP_dec (fun _ => ?_) (fun _ => ?_) | with_reducible refine condP_eq (fun _ => ?_) (fun _ => ?_) | with_reducible refine condP_ne (fun _ => ?_) (fun _ => ?_) | with_reducible refine condP_not (condP_dec (fun _ => ?_) (fun _ => ?_)) | with_reducible refine condP_not (condP_eq (fun _ => ?_) (fun _ => ?_)) | with_reducible refine condP_not (condP_intro (fun _ => ?_) (fun _ => ?_)) | with_reducible refine condP_intro (fun _ => ?_) (fun _ => ?_))
  all_goals (try simp only [List.length_map, AV.d.injEq, D.int.injEq, D.bool.injEq, D.str.injEq, D.sl.injEq, true_and, and_true, decide_eq_true_eq, decide_eq_false_iff_not, decide_eq_decide])
  all_goals (try simp only [List.length_map] at *)
  all_goals first | rfl | omega

set_option maxRecDepth 100000 in
set_option maxHeartbeats 1000000 in
theorem rb (s : Ar) (hl : s.l.length < 1000000) (j : Nat) (c : Ce) (hn : s.l[j]? = some c) (hx : aOdd c = false) : Runs Try.prog 0 (loopN Try.prog 20 1) (St.as (J0 s 4 j) 120) (.normal) (St.as (J0 s 4 (j+1)) 120) := by
  refine round_wp (p := condP (decide ((↑j : Int) < (↑(List.map ceD s.l).length : Int))) (((0 : Int) ≤ (↑j : Int)) ∧ (((List.map ceD s.l)[(↑j : Int).toNat]? = some (D.agg [D.bool c.v, D.int IntKind.i64 c.x, D.int IntKind.i64 c.l])) ∧ (condP (c.v) (condP (c.l != (0 : Int)) ((D.bool c.v = D.bool true) ∧ ((D.bool (c.l != (0 : Int)) = D.bool true) ∧ (False))) (condP (!c.v) ((D.bool c.v = D.bool true) ∧ ((D.bool (c.l != (0 : Int)) = D.bool false) ∧ (((D.bool !c.v) = D.bool true) ∧ (condP (c.x != (0 : Int)) (False) ((AV.ptr (0 : Nat) (0 : Nat) = AV.ptr (0 : Nat) (0 : Nat)) ∧ ((AV.d (D.int IntKind.i64 (IntKind.i64.wrap ((↑j : Int) + (1 : Int)))) = AV.d (D.int IntKind.i64 (↑(j + (1 : Nat)) : Int))) ∧ ((Ob.box [AV.d (D.sl (List.map ceD s.l)), AV.d (D.int IntKind.i64 s.f), AV.d (D.int IntKind.i64 s.u)] = Ob.box [AV.d (D.sl (List.map ceD s.l)), AV.d (D.int IntKind.i64 s.f), AV.d (D.int IntKind.i64 s.u)]) ∧ (True)))))))) ((D.bool c.v = D.bool true) ∧ ((D.bool (c.l != (0 : Int)) = D.bool false) ∧ (((D.bool !c.v) = D.bool false) ∧ ((AV.ptr (0 : Nat) (0 : Nat) = AV.ptr (0 : Nat) (0 : Nat)) ∧ ((AV.d (D.int IntKind.i64 (IntKind.i64.wrap ((↑j : Int) + (1 : Int)))) = AV.d (D.int IntKind.i64 (↑(j + (1 : Nat)) : Int))) ∧ ((Ob.box [AV.d (D.sl (List.map ceD s.l)), AV.d (D.int IntKind.i64 s.f), AV.d (D.int IntKind.i64 s.u)] = Ob.box [AV.d (D.sl (List.map ceD s.l)), AV.d (D.int IntKind.i64 s.f), AV.d (D.int IntKind.i64 s.u)]) ∧ (True))))))))) (condP (!c.v) ((D.bool c.v = D.bool false) ∧ ((D.bool false = D.bool false) ∧ (((D.bool !c.v) = D.bool true) ∧ (condP (c.x != (0 : Int)) (False) ((AV.ptr (0 : Nat) (0 : Nat) = AV.ptr (0 : Nat) (0 : Nat)) ∧ ((AV.d (D.int IntKind.i64 (IntKind.i64.wrap ((↑j : Int) + (1 : Int)))) = AV.d (D.int IntKind.i64 (↑(j + (1 : Nat)) : Int))) ∧ ((Ob.box [AV.d (D.sl (List.map ceD s.l)), AV.d (D.int IntKind.i64 s.f), AV.d (D.int IntKind.i64 s.u)] = Ob.box [AV.d (D.sl (List.map ceD s.l)), AV.d (D.int IntKind.i64 s.f), AV.d (D.int IntKind.i64 s.u)]) ∧ (True)))))))) ((D.bool c.v = D.bool false) ∧ ((D.bool false = D.bool false) ∧ (((D.bool !c.v) = D.bool false) ∧ ((AV.ptr (0 : Nat) (0 : Nat) = AV.ptr (0 : Nat) (0 : Nat)) ∧ ((AV.d (D.int IntKind.i64 (IntKind.i64.wrap ((↑j : Int) + (1 : Int)))) = AV.d (D.int IntKind.i64 (↑(j + (1 : Nat)) : Int))) ∧ ((Ob.box [AV.d (D.sl (List.map ceD s.l)), AV.d (D.int IntKind.i64 s.f), AV.d (D.int IntKind.i64 s.u)] = Ob.box [AV.d (D.sl (List.map ceD s.l)), AV.d (D.int IntKind.i64 s.f), AV.d (D.int IntKind.i64 s.u)]) ∧ (True))))))))))) (False)) (h := {els := [(52, .el (ceD c))]}) (subs := []) (ws := []) (ρ := []) (by kernel_rfl) ?_
  have hj := get_lt hn
  have hi := inc_i64 (j := j) (by omega)
  try rw [hi]
  refine condP_t (by rw [decide_eq_true_eq, List.length_map]; omega) ?_
  unfold aOdd at hx
  repeat' (first | with_reducible exact True.intro | with_reducible refine And.intro ?_ ?_ | with_reducible refine condP_dec (fun _ => ?_) (fun _ => ?_) | with_reducible refine condP_eq (fun _ => ?_) (fun _ => ?_) | with_reducible refine condP_ne (fun _ => ?_) (fun _ => ?_) | with_reducible refine condP_not (condP_dec (fun _ => ?_) (fun _ => ?_)) | with_reducible refine condP_not (condP_eq (fun _ => ?_) (fun _ => ?_)) | with_reducible refine condP_not (condP_intro (fun _ => ?_) (fun _ => ?_)) | with_reducible refine condP_intro (fun _ => ?_) (fun _ => ?_))
  all_goals first | exact el_map hn rfl | rfl | omega | (exfalso; simp_all; done) | (simp_all; done) | skip

set_option maxRecDepth 100000 in
set_option maxHeartbeats 1000000 in
theorem eb (s : Ar) (hl : s.l.length < 1000000) (j : Nat) (c : Ce) (hn : s.l[j]? = some c) (hx : aOdd c = true) : Runs Try.prog 0 (loopN Try.prog 20 1) (St.as (J0 s 4 j) 120) (.ret) (St.as (R2 4) 120) := by
  refine round_wp (p := condP (decide ((↑j : Int) < (↑(List.map ceD s.l).length : Int))) (((0 : Int) ≤ (↑j : Int)) ∧ (((List.map ceD s.l)[(↑j : Int).toNat]? = some (D.agg [D.bool c.v, D.int IntKind.i64 c.x, D.int IntKind.i64 c.l])) ∧ (condP (c.v) (condP (c.l != (0 : Int)) ((D.bool c.v = D.bool true) ∧ ((D.bool (c.l != (0 : Int)) = D.bool true) ∧ ((AV.d (D.int IntKind.i64 (4 : Int)) = AV.d (D.int IntKind.i64 (4 : Int))) ∧ (True)))) (condP (!c.v) ((D.bool c.v = D.bool true) ∧ ((D.bool (c.l != (0 : Int)) = D.bool false) ∧ (((D.bool !c.v) = D.bool true) ∧ (condP (c.x != (0 : Int)) ((AV.d (D.int IntKind.i64 (4 : Int)) = AV.d (D.int IntKind.i64 (4 : Int))) ∧ (True)) (False))))) ((D.bool c.v = D.bool true) ∧ ((D.bool (c.l != (0 : Int)) = D.bool false) ∧ (((D.bool !c.v) = D.bool false) ∧ (False)))))) (condP (!c.v) ((D.bool c.v = D.bool false) ∧ ((D.bool false = D.bool false) ∧ (((D.bool !c.v) = D.bool true) ∧ (condP (c.x != (0 : Int)) ((AV.d (D.int IntKind.i64 (4 : Int)) = AV.d (D.int IntKind.i64 (4 : Int))) ∧ (True)) (False))))) ((D.bool c.v = D.bool false) ∧ ((D.bool false = D.bool false) ∧ (((D.bool !c.v) = D.bool false) ∧ (False)))))))) (False)) (h := {els := [(52, .el (ceD c))]}) (subs := []) (ws := []) (ρ := []) (by kernel_rfl) ?_
  have hj := get_lt hn
  have hi := inc_i64 (j := j) (by omega)
  try rw [hi]
  refine condP_t (by rw [decide_eq_true_eq, List.length_map]; omega) ?_
  unfold aOdd at hx
  repeat' (first | with_reducible exact True.intro | with_reducible refine And.intro ?_ ?_ | with_reducible refine condP_dec (fun _ => ?_) (fun _ => ?_) | with_reducible refine condP_eq (fun _ => ?_) (fun _ => ?_) | with_reducible refine condP_ne (fun _ => ?_) (fun _ => ?_) | with_reducible refine condP_not (condP_dec (fun _ => ?_) (fun _ => ?_)) | with_reducible refine condP_not (condP_eq (fun _ => ?_) (fun _ => ?_)) | with_reducible refine condP_not (condP_intro (fun _ => ?_) (fun _ => ?_)) | with_reducible refine condP_intro (fun _ => ?_) (fun _ => ?_))
  all_goals first | exact el_map hn rfl | rfl | omega | (exfalso; simp_all; done) | (simp_all; done) | skip

set_option maxRecDepth 100000 in
set_option maxHeartbeats 1000000 in
theorem qb (s : Ar) : Runs Try.prog 0 (loopN Try.prog 20 1) (St.as (J0 s 4 s.l.length) 120) (.exit 2) (St.as (J0 s 4 s.l.length) 120) := by
  refine round_wp (p := condP (decide ((↑s.l.length : Int) < (↑(List.map ceD s.l).length : Int))) (False) ((AV.ptr (0 : Nat) (0 : Nat) = AV.ptr (0 : Nat) (0 : Nat)) ∧ ((AV.d (D.int IntKind.i64 (↑s.l.length : Int)) = AV.d (D.int IntKind.i64 (↑s.l.length : Int))) ∧ ((Ob.box [AV.d (D.sl (List.map ceD s.l)), AV.d (D.int IntKind.i64 s.f), AV.d (D.int IntKind.i64 s.u)] = Ob.box [AV.d (D.sl (List.map ceD s.l)), AV.d (D.int IntKind.i64 s.f), AV.d (D.int IntKind.i64 s.u)]) ∧ (True))))) (h := {}) (subs := []) (ws := []) (ρ := []) (by kernel_rfl) ?_
  repeat' (first | with_reducible exact True.intro | with_reducible refine And.intro ?_ ?_ | with_reducible refine condP_dec (fun _ => ?_) (fun _ => ?_) | with_reducible refine condP_eq (fun _ => ?_) (fun _ => ?_) | with_reducible refine condP_ne (fun _ => ?_) (fun _ => ?_) | with_reducible refine condP_not (condP_dec (fun _ => ?_) (fun _ => ?_)) | with_reducible refine condP_not (condP_eq (fun _ => ?_) (fun _ => ?_)) | with_reducible refine condP_not (condP_intro (fun _ => ?_) (fun _ => ?_)) | with_reducible refine condP_intro (fun _ => ?_) (fun _ => ?_))
  all_goals (try simp only [List.length_map, AV.d.injEq, D.int.injEq, D.bool.injEq, D.str.injEq, D.sl.injEq, true_and, and_true, decide_eq_true_eq, decide_eq_false_iff_not, decide_eq_decide])
  all_goals (try simp only [List.length_map] at *)
  all_goals first | rfl | omega

theorem la (s : Ar) (hl : s.l.length < 1000000) : (s.l.any (aStray s.l) = false → Loops Try.prog 0 (loopN Try.prog 20 0) ((J0 s 3 0).as 120) (.exit 0) ((J0 s 3 s.l.length).as 120)) ∧ (s.l.any (aStray s.l) = true → Loops Try.prog 0 (loopN Try.prog 20 0) ((J0 s 3 0).as 120) .ret ((R2 8).as 120)) := by
  rcases all_or (fun c => aStray s.l c = false) s.l with h | ⟨m, c, h1, h2, h3⟩
  · refine ⟨fun _ => loops_n (I := fun j => (J0 s 3 j).as 120) (by simp) s.l.length 0 (by omega) (fun j _ hj => ra s hl j _ (get_of hj) (h _ (List.getElem_mem hj))) (qa s), fun g => ?_⟩
    obtain ⟨c, hc, hs⟩ := List.any_eq_true.1 g
    rw [h c hc] at hs; cases hs
  · have hm := get_lt h1
    have h2 : aStray s.l c = true := by cases g : aStray s.l c; exact absurd g h2; rfl
    refine ⟨fun g => ?_, fun _ => loops_n (I := fun j => (J0 s 3 j).as 120) (by simp) m 0 (by omega) (fun j _ hj => ra s hl j (s.l[j]'(by omega)) (get_of _) (h3 j _ hj (get_of _))) (ea s hl m c h1 h2)⟩
    rw [List.any_eq_false] at g
    exact absurd h2 (g c (get_mem h1))
theorem lb (s : Ar) (hl : s.l.length < 1000000) : (s.l.any aOdd = false → Loops Try.prog 0 (loopN Try.prog 20 1) ((J0 s 4 0).as 120) (.exit 2) ((J0 s 4 s.l.length).as 120)) ∧ (s.l.any aOdd = true → Loops Try.prog 0 (loopN Try.prog 20 1) ((J0 s 4 0).as 120) .ret ((R2 4).as 120)) := by
  rcases all_or (fun c => aOdd c = false) s.l with h | ⟨m, c, h1, h2, h3⟩
  · refine ⟨fun _ => loops_n (I := fun j => (J0 s 4 j).as 120) (by simp) s.l.length 0 (by omega) (fun j _ hj => rb s hl j _ (get_of hj) (h _ (List.getElem_mem hj))) (qb s), fun g => ?_⟩
    obtain ⟨c, hc, hs⟩ := List.any_eq_true.1 g
    rw [h c hc] at hs; cases hs
  · have hm := get_lt h1
    have h2 : aOdd c = true := by cases g : aOdd c; exact absurd g h2; rfl
    refine ⟨fun g => ?_, fun _ => loops_n (I := fun j => (J0 s 4 j).as 120) (by simp) m 0 (by omega) (fun j _ hj => rb s hl j (s.l[j]'(by omega)) (get_of _) (h3 j _ hj (get_of _))) (eb s hl m c h1 h2)⟩
    rw [List.any_eq_false] at g
    exact absurd h2 (g c (get_mem h1))
/-! ### None twice, none live -/
def K0 (s : Ar) (l : List Int) (i k : Nat) : St := ⟨[(1, .ptr 0 0), (6, .d (.sl (inD l))), (8, .d (.int .i64 i)), (9, .d (.int .i64 k))], [(0, arB s)]⟩
def L0 (s : Ar) (l : List Int) (i : Nat) : St := ⟨[(1, .ptr 0 0), (6, .d (.sl (inD l))), (8, .d (.int .i64 i))], [(0, arB s)]⟩
set_option maxRecDepth 100000 in
set_option maxHeartbeats 1000000 in
theorem rc (s : Ar) (l : List Int) (hl : l.length < 1000000) (i k : Nat) (hk : k < i) (a b : Int) (ha : l[k]? = some a) (hb : l[i]? = some b) (hx : a ≠ b) : Runs Try.prog 0 (loopN Try.prog 20 3) (St.as (K0 s l i k) 120) (.normal) (St.as (K0 s l i (k+1)) 120) := by
  refine round_wp (p := condP (decide ((↑k : Int) < (↑i : Int))) (((0 : Int) ≤ (↑k : Int)) ∧ (((inD l)[(↑k : Int).toNat]? = some (D.int IntKind.i64 a)) ∧ (((0 : Int) ≤ (↑i : Int)) ∧ (((inD l)[(↑i : Int).toNat]? = some (D.int IntKind.i64 b)) ∧ ((D.bool (a == b) = D.bool false) ∧ ((AV.ptr (0 : Nat) (0 : Nat) = AV.ptr (0 : Nat) (0 : Nat)) ∧ ((AV.d (D.sl (inD l)) = AV.d (D.sl (inD l))) ∧ ((AV.d (D.int IntKind.i64 (↑i : Int)) = AV.d (D.int IntKind.i64 (↑i : Int))) ∧ ((AV.d (D.int IntKind.i64 (IntKind.i64.wrap ((↑k : Int) + (1 : Int)))) = AV.d (D.int IntKind.i64 (↑(k + (1 : Nat)) : Int))) ∧ ((Ob.box [AV.d (D.sl (List.map ceD s.l)), AV.d (D.int IntKind.i64 s.f), AV.d (D.int IntKind.i64 s.u)] = Ob.box [AV.d (D.sl (List.map ceD s.l)), AV.d (D.int IntKind.i64 s.f), AV.d (D.int IntKind.i64 s.u)]) ∧ (True))))))))))) (False)) (h := {els := [(111, .el (.int .i64 a)), (115, .el (.int .i64 b))], H := [(28, [(8, .val (.bool false))])]}) (subs := []) (ws := []) (ρ := []) (by kernel_rfl) ?_
  have hji := get_lt ha
  have hi := inc_i64 (j := k) (by omega)
  have e1 : (inD l)[((k : Int)).toNat]? = some (.int .i64 a) := by unfold inD; exact el_map ha rfl
  have e2 : (inD l)[((i : Int)).toNat]? = some (.int .i64 b) := by unfold inD; exact el_map hb rfl
  try rw [hi]
  refine condP_t (by rw [decide_eq_true_eq]; omega) ?_
  repeat' (first | with_reducible exact True.intro | with_reducible refine And.intro ?_ ?_ | with_reducible refine condP_dec (fun _ => ?_) (fun _ => ?_) | with_reducible refine condP_eq (fun _ => ?_) (fun _ => ?_) | with_reducible refine condP_ne (fun _ => ?_) (fun _ => ?_) | with_reducible refine condP_not (condP_dec (fun _ => ?_) (fun _ => ?_)) | with_reducible refine condP_not (condP_eq (fun _ => ?_) (fun _ => ?_)) | with_reducible refine condP_not (condP_intro (fun _ => ?_) (fun _ => ?_)) | with_reducible refine condP_intro (fun _ => ?_) (fun _ => ?_))
  all_goals first | exact e1 | exact e2 | rfl | omega | (exfalso; omega) | (refine congrArg D.bool ?_; simpa using hx) | skip

set_option maxRecDepth 100000 in
set_option maxHeartbeats 1000000 in
theorem ec (s : Ar) (l : List Int) (hl : l.length < 1000000) (i k : Nat) (hk : k < i) (a b : Int) (ha : l[k]? = some a) (hb : l[i]? = some b) (hx : a = b) : Runs Try.prog 0 (loopN Try.prog 20 3) (St.as (K0 s l i k) 120) (.ret) (St.as (R2 10) 120) := by
  refine round_wp (p := condP (decide ((↑k : Int) < (↑i : Int))) (((0 : Int) ≤ (↑k : Int)) ∧ (((inD l)[(↑k : Int).toNat]? = some (D.int IntKind.i64 a)) ∧ (((0 : Int) ≤ (↑i : Int)) ∧ (((inD l)[(↑i : Int).toNat]? = some (D.int IntKind.i64 b)) ∧ ((D.bool (a == b) = D.bool true) ∧ ((AV.d (D.int IntKind.i64 (10 : Int)) = AV.d (D.int IntKind.i64 (10 : Int))) ∧ (True))))))) (False)) (h := {els := [(111, .el (.int .i64 a)), (115, .el (.int .i64 b))], H := [(28, [(8, .val (.bool true))])]}) (subs := []) (ws := []) (ρ := []) (by kernel_rfl) ?_
  have hji := get_lt ha
  have hi := inc_i64 (j := k) (by omega)
  have e1 : (inD l)[((k : Int)).toNat]? = some (.int .i64 a) := by unfold inD; exact el_map ha rfl
  have e2 : (inD l)[((i : Int)).toNat]? = some (.int .i64 b) := by unfold inD; exact el_map hb rfl
  try rw [hi]
  refine condP_t (by rw [decide_eq_true_eq]; omega) ?_
  repeat' (first | with_reducible exact True.intro | with_reducible refine And.intro ?_ ?_ | with_reducible refine condP_dec (fun _ => ?_) (fun _ => ?_) | with_reducible refine condP_eq (fun _ => ?_) (fun _ => ?_) | with_reducible refine condP_ne (fun _ => ?_) (fun _ => ?_) | with_reducible refine condP_not (condP_dec (fun _ => ?_) (fun _ => ?_)) | with_reducible refine condP_not (condP_eq (fun _ => ?_) (fun _ => ?_)) | with_reducible refine condP_not (condP_intro (fun _ => ?_) (fun _ => ?_)) | with_reducible refine condP_intro (fun _ => ?_) (fun _ => ?_))
  all_goals first | exact e1 | exact e2 | rfl | omega | (exfalso; omega) | (refine congrArg D.bool ?_; simpa using hx) | skip

set_option maxRecDepth 100000 in
set_option maxHeartbeats 1000000 in
theorem qc (s : Ar) (l : List Int) (i : Nat) : Runs Try.prog 0 (loopN Try.prog 20 3) (St.as (K0 s l i i) 120) (.exit 6) (St.as (K0 s l i i) 120) := by
  refine round_wp (p := condP (decide ((↑i : Int) < (↑i : Int))) (False) ((AV.ptr (0 : Nat) (0 : Nat) = AV.ptr (0 : Nat) (0 : Nat)) ∧ ((AV.d (D.sl (inD l)) = AV.d (D.sl (inD l))) ∧ ((AV.d (D.int IntKind.i64 (↑i : Int)) = AV.d (D.int IntKind.i64 (↑i : Int))) ∧ ((AV.d (D.int IntKind.i64 (↑i : Int)) = AV.d (D.int IntKind.i64 (↑i : Int))) ∧ ((Ob.box [AV.d (D.sl (List.map ceD s.l)), AV.d (D.int IntKind.i64 s.f), AV.d (D.int IntKind.i64 s.u)] = Ob.box [AV.d (D.sl (List.map ceD s.l)), AV.d (D.int IntKind.i64 s.f), AV.d (D.int IntKind.i64 s.u)]) ∧ (True))))))) (h := {}) (subs := []) (ws := []) (ρ := []) (by kernel_rfl) ?_
  repeat' (first | with_reducible exact True.intro | with_reducible refine And.intro ?_ ?_ | with_reducible refine condP_dec (fun _ => ?_) (fun _ => ?_) | with_reducible refine condP_eq (fun _ => ?_) (fun _ => ?_) | with_reducible refine condP_ne (fun _ => ?_) (fun _ => ?_) | with_reducible refine condP_not (condP_dec (fun _ => ?_) (fun _ => ?_)) | with_reducible refine condP_not (condP_eq (fun _ => ?_) (fun _ => ?_)) | with_reducible refine condP_not (condP_intro (fun _ => ?_) (fun _ => ?_)) | with_reducible refine condP_intro (fun _ => ?_) (fun _ => ?_))
  all_goals (try simp only [List.length_map, AV.d.injEq, D.int.injEq, D.bool.injEq, D.str.injEq, D.sl.injEq, true_and, and_true, decide_eq_true_eq, decide_eq_false_iff_not, decide_eq_decide])
  all_goals (try simp only [List.length_map] at *)
  all_goals first | rfl | omega

theorem lc (s : Ar) (l : List Int) (hl : l.length < 1000000) (i : Nat) (b : Int) (hb : l[i]? = some b) : (b ∉ l.take i → Loops Try.prog 0 (loopN Try.prog 20 3) ((K0 s l i 0).as 120) (.exit 6) ((K0 s l i i).as 120)) ∧ (b ∈ l.take i → Loops Try.prog 0 (loopN Try.prog 20 3) ((K0 s l i 0).as 120) .ret ((R2 10).as 120)) := by
  have hil := get_lt hb
  have hg : ∀ k, k < i → (l.take i)[k]? = l[k]? := fun k hk => by rw [List.getElem?_take, if_pos hk]
  have hln : (l.take i).length = i := by simp; omega
  rcases all_or (fun a => a ≠ b) (l.take i) with h | ⟨m, a, h1, h2, h3⟩
  · refine ⟨fun _ => loops_n (I := fun k => (K0 s l i k).as 120) (by simp) i 0 (by omega) (fun k _ hk => rc s l hl i k hk _ b (get_of (by omega)) hb ?_) (qc s l i), fun g => absurd rfl (h b g)⟩
    refine h _ (List.mem_of_getElem? (i := k) ?_)
    rw [hg k hk]; exact get_of (by omega)
  · have hm := get_lt h1
    rw [hln] at hm
    have h2 : a = b := Classical.byContradiction h2
    rw [hg m hm] at h1
    refine ⟨fun g => absurd (List.mem_of_getElem? (i := m) (by rw [hg m hm, h1, h2])) g, fun _ => loops_n (I := fun k => (K0 s l i k).as 120) (by simp) m 0 (by omega) (fun k _ hk => rc s l hl i k (by omega) (l[k]'(by omega)) b (get_of _) hb (h3 k _ hk (by rw [hg k (by omega)]; exact get_of _))) (ec s l hl i m hm a b h1 hb h2)⟩
set_option maxRecDepth 100000 in
set_option maxHeartbeats 1000000 in
theorem rd (s : Ar) (l : List Int) (hl : l.length < 1000000) (i n : Nat) (hb : l[i]? = some (n : Int)) (c : Ce) (hc : s.l[n]? = some c) (hv : c.v = false) (hL : Loops Try.prog 0 (loopN Try.prog 20 3) ((K0 s l i 0).as 120) (.exit 6) ((K0 s l i i).as 120)) : Runs Try.prog 0 (loopN Try.prog 20 2) (St.as (L0 s l i) 120) (.normal) (St.as (L0 s l (i+1)) 120) := by
  refine round_wp (p := condP (decide ((↑i : Int) < (↑(inD l).length : Int))) (((0 : Int) ≤ (↑i : Int)) ∧ (((inD l)[(↑i : Int).toNat]? = some (D.int IntKind.i64 (↑n : Int))) ∧ (((0 : Int) ≤ (↑n : Int)) ∧ (((List.map ceD s.l)[(↑n : Int).toNat]? = some (D.agg [D.bool c.v, D.int IntKind.i64 c.x, D.int IntKind.i64 c.l])) ∧ ((D.bool c.v = D.bool false) ∧ ((AV.ptr (0 : Nat) (0 : Nat) = AV.ptr (0 : Nat) (0 : Nat)) ∧ ((AV.d (D.sl (inD l)) = AV.d (D.sl (inD l))) ∧ ((AV.d (D.int IntKind.i64 (↑i : Int)) = AV.d (D.int IntKind.i64 (↑i : Int))) ∧ ((AV.d (D.int IntKind.i64 (0 : Int)) = AV.d (D.int IntKind.i64 (0 : Int))) ∧ ((Ob.box [AV.d (D.sl (List.map ceD s.l)), AV.d (D.int IntKind.i64 s.f), AV.d (D.int IntKind.i64 s.u)] = Ob.box [AV.d (D.sl (List.map ceD s.l)), AV.d (D.int IntKind.i64 s.f), AV.d (D.int IntKind.i64 s.u)]) ∧ ((LoopsS Try.prog (0 : Nat) (loopN Try.prog (20 : Nat) (3 : Nat)) (K0 s l i (0 : Nat)) (Exit.exit (6 : Nat)) (K0 s l i i) (120 : Nat)) ∧ ((AV.ptr (0 : Nat) (0 : Nat) = AV.ptr (0 : Nat) (0 : Nat)) ∧ ((AV.d (D.sl (inD l)) = AV.d (D.sl (inD l))) ∧ ((AV.d (D.int IntKind.i64 (IntKind.i64.wrap ((↑i : Int) + (1 : Int)))) = AV.d (D.int IntKind.i64 (↑(i + (1 : Nat)) : Int))) ∧ ((Ob.box [AV.d (D.sl (List.map ceD s.l)), AV.d (D.int IntKind.i64 s.f), AV.d (D.int IntKind.i64 s.u)] = Ob.box [AV.d (D.sl (List.map ceD s.l)), AV.d (D.int IntKind.i64 s.f), AV.d (D.int IntKind.i64 s.u)]) ∧ (True)))))))))))))))) (False)) (h := {els := [(99, .el (.int .i64 n)), (98, .el (ceD c))], H := [(23, [(8, .val (.bool false))])]}) (subs := [⟨[], [], K0 s l i 0, .exit 6, K0 s l i i⟩]) (ws := []) (ρ := []) (by kernel_rfl) ?_
  have hil := get_lt hb
  have hi := inc_i64 (j := i) (by omega)
  have e2 : (inD l)[((i : Int)).toNat]? = some (.int .i64 (n : Int)) := by unfold inD; exact el_map hb rfl
  have hln := inD_len l
  try rw [hi]
  refine condP_t (by rw [decide_eq_true_eq]; omega) ?_
  repeat' (first | with_reducible exact True.intro | with_reducible refine And.intro ?_ ?_ | with_reducible refine condP_dec (fun _ => ?_) (fun _ => ?_) | with_reducible refine condP_eq (fun _ => ?_) (fun _ => ?_) | with_reducible refine condP_ne (fun _ => ?_) (fun _ => ?_) | with_reducible refine condP_not (condP_dec (fun _ => ?_) (fun _ => ?_)) | with_reducible refine condP_not (condP_eq (fun _ => ?_) (fun _ => ?_)) | with_reducible refine condP_not (condP_intro (fun _ => ?_) (fun _ => ?_)) | with_reducible refine condP_intro (fun _ => ?_) (fun _ => ?_))
  all_goals first | exact e2 | exact el_map hc rfl | exact hL | rfl | omega | (refine congrArg D.bool ?_; exact hv) | skip

set_option maxRecDepth 100000 in
set_option maxHeartbeats 1000000 in
theorem ed (s : Ar) (l : List Int) (hl : l.length < 1000000) (i n : Nat) (hb : l[i]? = some (n : Int)) (c : Ce) (hc : s.l[n]? = some c) (hv : c.v = false) (hL : Loops Try.prog 0 (loopN Try.prog 20 3) ((K0 s l i 0).as 120) .ret ((R2 10).as 120)) : Runs Try.prog 0 (loopN Try.prog 20 2) (St.as (L0 s l i) 120) (.ret) (St.as (R2 10) 120) := by
  refine round_wp (p := condP (decide ((↑i : Int) < (↑(inD l).length : Int))) (((0 : Int) ≤ (↑i : Int)) ∧ (((inD l)[(↑i : Int).toNat]? = some (D.int IntKind.i64 (↑n : Int))) ∧ (((0 : Int) ≤ (↑n : Int)) ∧ (((List.map ceD s.l)[(↑n : Int).toNat]? = some (D.agg [D.bool c.v, D.int IntKind.i64 c.x, D.int IntKind.i64 c.l])) ∧ ((D.bool c.v = D.bool false) ∧ ((AV.ptr (0 : Nat) (0 : Nat) = AV.ptr (0 : Nat) (0 : Nat)) ∧ ((AV.d (D.sl (inD l)) = AV.d (D.sl (inD l))) ∧ ((AV.d (D.int IntKind.i64 (↑i : Int)) = AV.d (D.int IntKind.i64 (↑i : Int))) ∧ ((AV.d (D.int IntKind.i64 (0 : Int)) = AV.d (D.int IntKind.i64 (0 : Int))) ∧ ((Ob.box [AV.d (D.sl (List.map ceD s.l)), AV.d (D.int IntKind.i64 s.f), AV.d (D.int IntKind.i64 s.u)] = Ob.box [AV.d (D.sl (List.map ceD s.l)), AV.d (D.int IntKind.i64 s.f), AV.d (D.int IntKind.i64 s.u)]) ∧ ((LoopsS Try.prog (0 : Nat) (loopN Try.prog (20 : Nat) (3 : Nat)) (K0 s l i (0 : Nat)) Exit.ret (R2 (10 : Int)) (120 : Nat)) ∧ ((AV.d (D.int IntKind.i64 (10 : Int)) = AV.d (D.int IntKind.i64 (10 : Int))) ∧ (True))))))))))))) (False)) (h := {els := [(99, .el (.int .i64 n)), (98, .el (ceD c))], H := [(23, [(8, .val (.bool false))])]}) (subs := [⟨[], [], K0 s l i 0, .ret, R2 10⟩]) (ws := []) (ρ := []) (by kernel_rfl) ?_
  have hil := get_lt hb
  have hi := inc_i64 (j := i) (by omega)
  have e2 : (inD l)[((i : Int)).toNat]? = some (.int .i64 (n : Int)) := by unfold inD; exact el_map hb rfl
  have hln := inD_len l
  try rw [hi]
  refine condP_t (by rw [decide_eq_true_eq]; omega) ?_
  repeat' (first | with_reducible exact True.intro | with_reducible refine And.intro ?_ ?_ | with_reducible refine condP_dec (fun _ => ?_) (fun _ => ?_) | with_reducible refine condP_eq (fun _ => ?_) (fun _ => ?_) | with_reducible refine condP_ne (fun _ => ?_) (fun _ => ?_) | with_reducible refine condP_not (condP_dec (fun _ => ?_) (fun _ => ?_)) | with_reducible refine condP_not (condP_eq (fun _ => ?_) (fun _ => ?_)) | with_reducible refine condP_not (condP_intro (fun _ => ?_) (fun _ => ?_)) | with_reducible refine condP_intro (fun _ => ?_) (fun _ => ?_))
  all_goals first | exact e2 | exact el_map hc rfl | exact hL | rfl | omega | (refine congrArg D.bool ?_; exact hv) | skip

set_option maxRecDepth 100000 in
set_option maxHeartbeats 1000000 in
theorem vd (s : Ar) (l : List Int) (hl : l.length < 1000000) (i n : Nat) (hb : l[i]? = some (n : Int)) (c : Ce) (hc : s.l[n]? = some c) (hv : c.v = true) (hL : True) : Runs Try.prog 0 (loopN Try.prog 20 2) (St.as (L0 s l i) 120) (.ret) (St.as (R2 10) 120) := by
  refine round_wp (p := condP (decide ((↑i : Int) < (↑(inD l).length : Int))) (((0 : Int) ≤ (↑i : Int)) ∧ (((inD l)[(↑i : Int).toNat]? = some (D.int IntKind.i64 (↑n : Int))) ∧ (((0 : Int) ≤ (↑n : Int)) ∧ (((List.map ceD s.l)[(↑n : Int).toNat]? = some (D.agg [D.bool c.v, D.int IntKind.i64 c.x, D.int IntKind.i64 c.l])) ∧ ((D.bool c.v = D.bool true) ∧ ((AV.d (D.int IntKind.i64 (10 : Int)) = AV.d (D.int IntKind.i64 (10 : Int))) ∧ (True))))))) (False)) (h := {els := [(99, .el (.int .i64 n)), (98, .el (ceD c))], H := [(23, [(8, .val (.bool true))])]}) (subs := []) (ws := []) (ρ := []) (by kernel_rfl) ?_
  have hil := get_lt hb
  have hi := inc_i64 (j := i) (by omega)
  have e2 : (inD l)[((i : Int)).toNat]? = some (.int .i64 (n : Int)) := by unfold inD; exact el_map hb rfl
  have hln := inD_len l
  try rw [hi]
  refine condP_t (by rw [decide_eq_true_eq]; omega) ?_
  repeat' (first | with_reducible exact True.intro | with_reducible refine And.intro ?_ ?_ | with_reducible refine condP_dec (fun _ => ?_) (fun _ => ?_) | with_reducible refine condP_eq (fun _ => ?_) (fun _ => ?_) | with_reducible refine condP_ne (fun _ => ?_) (fun _ => ?_) | with_reducible refine condP_not (condP_dec (fun _ => ?_) (fun _ => ?_)) | with_reducible refine condP_not (condP_eq (fun _ => ?_) (fun _ => ?_)) | with_reducible refine condP_not (condP_intro (fun _ => ?_) (fun _ => ?_)) | with_reducible refine condP_intro (fun _ => ?_) (fun _ => ?_))
  all_goals first | exact e2 | exact el_map hc rfl | exact hL | rfl | omega | (refine congrArg D.bool ?_; exact hv) | skip

set_option maxRecDepth 100000 in
set_option maxHeartbeats 1000000 in
theorem qd (s : Ar) (l : List Int) : Runs Try.prog 0 (loopN Try.prog 20 2) (St.as (L0 s l l.length) 120) (.exit 4) (St.as (L0 s l l.length) 120) := by
  refine round_wp (p := condP (decide ((↑l.length : Int) < (↑(inD l).length : Int))) (False) ((AV.ptr (0 : Nat) (0 : Nat) = AV.ptr (0 : Nat) (0 : Nat)) ∧ ((AV.d (D.sl (inD l)) = AV.d (D.sl (inD l))) ∧ ((AV.d (D.int IntKind.i64 (↑l.length : Int)) = AV.d (D.int IntKind.i64 (↑l.length : Int))) ∧ ((Ob.box [AV.d (D.sl (List.map ceD s.l)), AV.d (D.int IntKind.i64 s.f), AV.d (D.int IntKind.i64 s.u)] = Ob.box [AV.d (D.sl (List.map ceD s.l)), AV.d (D.int IntKind.i64 s.f), AV.d (D.int IntKind.i64 s.u)]) ∧ (True)))))) (h := {}) (subs := []) (ws := []) (ρ := []) (by kernel_rfl) ?_
  have hln := inD_len l
  rw [hln]
  repeat' (first | with_reducible exact True.intro | with_reducible refine And.intro ?_ ?_ | with_reducible refine condP_dec (fun _ => ?_) (fun _ => ?_) | with_reducible refine condP_eq (fun _ => ?_) (fun _ => ?_) | with_reducible refine condP_ne (fun _ => ?_) (fun _ => ?_) | with_reducible refine condP_not (condP_dec (fun _ => ?_) (fun _ => ?_)) | with_reducible refine condP_not (condP_eq (fun _ => ?_) (fun _ => ?_)) | with_reducible refine condP_not (condP_intro (fun _ => ?_) (fun _ => ?_)) | with_reducible refine condP_intro (fun _ => ?_) (fun _ => ?_))
  all_goals (try simp only [List.length_map, AV.d.injEq, D.int.injEq, D.bool.injEq, D.str.injEq, D.sl.injEq, true_and, and_true, decide_eq_true_eq, decide_eq_false_iff_not, decide_eq_decide])
  all_goals (try simp only [List.length_map] at *)
  all_goals first | rfl | omega

theorem nodup_take (l : List Int) : l.Nodup ↔ ∀ (i : Nat) (b : Int), l[i]? = some b → b ∉ l.take i := by
  rw [List.Nodup, List.pairwise_iff_getElem]
  constructor
  · intro h i b hb hm
    obtain ⟨k, hk⟩ := List.mem_iff_getElem?.1 hm
    rw [List.getElem?_take] at hk
    split at hk
    · next hki =>
      obtain ⟨h1, h2⟩ := List.getElem?_eq_some_iff.1 hb
      obtain ⟨h3, h4⟩ := List.getElem?_eq_some_iff.1 hk
      exact h k i h3 h1 hki (h4.trans h2.symm)
    · cases hk
  · intro h i j hi hj hij e
    refine h j l[j] (get_of hj) (List.mem_of_getElem? (i := i) ?_)
    rw [List.getElem?_take, if_pos hij, get_of hi, e]
theorem ld (s : Ar) (l : List Int) (hl : l.length < 1000000) (hr : ∀ x ∈ l, 0 ≤ x ∧ x < (s.l.length : Int)) :
    (((∀ x ∈ l, liveAt s.l x = false) ∧ l.Nodup) → Loops Try.prog 0 (loopN Try.prog 20 2) ((L0 s l 0).as 120) (.exit 4) ((L0 s l l.length).as 120)) ∧ (¬((∀ x ∈ l, liveAt s.l x = false) ∧ l.Nodup) → Loops Try.prog 0 (loopN Try.prog 20 2) ((L0 s l 0).as 120) .ret ((R2 10).as 120)) := by
  have step : ∀ (i : Nat) (b : Int), l[i]? = some b → liveAt s.l b = false → b ∉ l.take i → Runs Try.prog 0 (loopN Try.prog 20 2) ((L0 s l i).as 120) .normal ((L0 s l (i + 1)).as 120) := by
    intro i b hb hv hm
    have hbr := hr b (get_mem hb)
    obtain ⟨n, rfl⟩ := Int.eq_ofNat_of_zero_le hbr.1
    have hn : n < s.l.length := by omega
    have hc := get_of hn
    rw [liveAt_of hc] at hv
    exact rd s l hl i n hb _ hc hv ((lc s l hl i _ hb).1 hm)
  have bad : ∀ (i : Nat) (b : Int), l[i]? = some b → (liveAt s.l b = true ∨ b ∈ l.take i) → Runs Try.prog 0 (loopN Try.prog 20 2) ((L0 s l i).as 120) .ret ((R2 10).as 120) := by
    intro i b hb hv
    have hbr := hr b (get_mem hb)
    obtain ⟨n, rfl⟩ := Int.eq_ofNat_of_zero_le hbr.1
    have hn : n < s.l.length := by omega
    have hc := get_of hn
    have hlv := liveAt_of hc
    cases hw : (s.l[n]).v
    · rcases hv with hv | hv
      · rw [hlv, hw] at hv; cases hv
      · exact ed s l hl i n hb _ hc hw ((lc s l hl i _ hb).2 hv)
    · exact vd s l hl i n hb _ hc hw trivial
  have key : ∀ i, i < l.length → ∃ b, l[i]? = some b := fun i hi => ⟨_, get_of hi⟩
  rcases first_of (fun i => ∀ b, l[i]? = some b → liveAt s.l b = false ∧ b ∉ l.take i) l.length with h | ⟨m, h1, h2, h3⟩
  · refine ⟨fun _ => loops_n (I := fun i => (L0 s l i).as 120) (by simp) l.length 0 (by omega) (fun i _ hi => step i _ (get_of hi) (h i hi _ (get_of hi)).1 (h i hi _ (get_of hi)).2) (qd s l), fun g => ?_⟩
    refine absurd ⟨fun x hx => ?_, ?_⟩ g
    · obtain ⟨i, hi⟩ := List.mem_iff_getElem?.1 hx
      exact (h i (get_lt hi) x hi).1
    · rw [nodup_take]
      intro i b hb
      exact (h i (get_lt hb) b hb).2
  · have hb := get_of h1
    have h2' : liveAt s.l l[m] = true ∨ l[m] ∈ l.take m := by
      apply Classical.byContradiction
      intro hn
      refine h2 fun b hb' => ?_
      rw [hb] at hb'
      cases hb'
      refine ⟨?_, fun g => hn (.inr g)⟩
      cases g : liveAt s.l l[m]
      · rfl
      · exact absurd (.inl g) hn
    refine ⟨fun g => ?_, fun _ => loops_n (I := fun i => (L0 s l i).as 120) (by simp) m 0 (by omega) (fun i _ hi => step i (l[i]'(by omega)) (get_of _) (h3 i hi _ (get_of _)).1 (h3 i hi _ (get_of _)).2) (bad m _ hb h2')⟩
    rcases h2' with h | h
    · rw [g.1 _ (get_mem hb)] at h; cases h
    · exact absurd h ((nodup_take l).1 g.2 m _ hb)
/-! ### All of it -/
set_option maxRecDepth 100000 in
set_option maxHeartbeats 1000000 in
theorem c20l (s : Ar) (h : 64 < s.l.length) : FnOK Try.prog 20 ([.d (arD s)]) ([]) (.d (.int .i64 5)) ([]) := by
  refine fnOK_wp (p := (D.bool (decide ((↑(List.map ceD s.l).length : Int) > (64 : Int))) = D.bool true) ∧ ((AV.d (D.int IntKind.i64 (5 : Int)) = AV.d (D.int IntKind.i64 (5 : Int))) ∧ (True))) (h := {H := [(1, [(3, .val (.bool true))])]}) (subs := []) (ws := []) (ρ := []) (by kernel_rfl) ?_
  simp only [List.length_map]
  repeat' (first | with_reducible exact True.intro | with_reducible refine And.intro ?_ ?_ | with_reducible refine condP_dec (fun _ => ?_) (fun _ => ?_) | with_reducible refine condP_eq (fun _ => ?_) (fun _ => ?_) | with_reducible refine condP_ne (fun _ => ?_) (fun _ => ?_) | with_reducible refine condP_not (condP_dec (fun _ => ?_) (fun _ => ?_)) | with_reducible refine condP_not (condP_eq (fun _ => ?_) (fun _ => ?_)) | with_reducible refine condP_not (condP_intro (fun _ => ?_) (fun _ => ?_)) | with_reducible refine condP_intro (fun _ => ?_) (fun _ => ?_))
  all_goals first | rfl | exact dyes (by omega) | skip

set_option maxRecDepth 100000 in
set_option maxHeartbeats 1000000 in
theorem c20p (s : Ar) (h : s.l.length ≤ 64) (hp : aPlace s.l s.f = false) : FnOK Try.prog 20 ([.d (arD s)]) ([]) (.d (.int .i64 8)) ([]) := by
  refine fnOK_wp (p := (D.bool (decide ((↑(List.map ceD s.l).length : Int) > (64 : Int))) = D.bool false) ∧ ((FnOK Try.prog (38 : Nat) [AV.d (D.agg [D.sl (List.map ceD s.l), D.int IntKind.i64 s.f, D.int IntKind.i64 s.u]), AV.d (D.int IntKind.i64 s.f)] [] (AV.d (D.bool false)) []) ∧ ((AV.d (D.int IntKind.i64 (8 : Int)) = AV.d (D.int IntKind.i64 (8 : Int))) ∧ (True)))) (h := {H := [(1, [(3, .val (.bool false))])], G := [(38, gAns (.d (.bool false)))]}) (subs := []) (ws := []) (ρ := []) (by kernel_rfl) ?_
  have k := place38 s s.f
  rw [hp] at k
  simp only [List.length_map]
  repeat' (first | with_reducible exact True.intro | with_reducible refine And.intro ?_ ?_ | with_reducible refine condP_dec (fun _ => ?_) (fun _ => ?_) | with_reducible refine condP_eq (fun _ => ?_) (fun _ => ?_) | with_reducible refine condP_ne (fun _ => ?_) (fun _ => ?_) | with_reducible refine condP_not (condP_dec (fun _ => ?_) (fun _ => ?_)) | with_reducible refine condP_not (condP_eq (fun _ => ?_) (fun _ => ?_)) | with_reducible refine condP_not (condP_intro (fun _ => ?_) (fun _ => ?_)) | with_reducible refine condP_intro (fun _ => ?_) (fun _ => ?_))
  all_goals first | exact k | rfl | exact dno (by omega) | skip

set_option maxRecDepth 100000 in
set_option maxHeartbeats 1000000 in
theorem c20a (s : Ar) (h : s.l.length ≤ 64) (hp : aPlace s.l s.f = true) (hA : Loops Try.prog 0 (loopN Try.prog 20 0) ((J0 s 3 0).as 120) .ret ((R2 8).as 120)) : FnOK Try.prog 20 ([.d (arD s)]) ([]) (.d (.int .i64 8)) ([]) := by
  refine fnOK_wp (p := (D.bool (decide ((↑(List.map ceD s.l).length : Int) > (64 : Int))) = D.bool false) ∧ ((FnOK Try.prog (38 : Nat) [AV.d (D.agg [D.sl (List.map ceD s.l), D.int IntKind.i64 s.f, D.int IntKind.i64 s.u]), AV.d (D.int IntKind.i64 s.f)] [] (AV.d (D.bool true)) []) ∧ ((AV.ptr (1008 : Nat) (0 : Nat) = AV.ptr (1008 : Nat) (0 : Nat)) ∧ ((AV.d (D.int IntKind.i64 (0 : Int)) = AV.d (D.int IntKind.i64 (0 : Int))) ∧ ((Ob.box [AV.d (D.sl (List.map ceD s.l)), AV.d (D.int IntKind.i64 s.f), AV.d (D.int IntKind.i64 s.u)] = Ob.box [AV.d (D.sl (List.map ceD s.l)), AV.d (D.int IntKind.i64 s.f), AV.d (D.int IntKind.i64 s.u)]) ∧ ((LoopsS Try.prog (0 : Nat) (loopN Try.prog (20 : Nat) (0 : Nat)) (J0 s (3 : Nat) (0 : Nat)) Exit.ret (R2 (8 : Int)) (120 : Nat)) ∧ ((AV.d (D.int IntKind.i64 (8 : Int)) = AV.d (D.int IntKind.i64 (8 : Int))) ∧ (True)))))))) (h := {H := [(1, [(3, .val (.bool false))])], G := [(38, gAns (.d (.bool true)))]}) (subs := [⟨[], [], J0 s 3 0, .ret, R2 8⟩]) (ws := []) (ρ := []) (by kernel_rfl) ?_
  have k := place38 s s.f
  rw [hp] at k
  simp only [List.length_map]
  repeat' (first | with_reducible exact True.intro | with_reducible refine And.intro ?_ ?_ | with_reducible refine condP_dec (fun _ => ?_) (fun _ => ?_) | with_reducible refine condP_eq (fun _ => ?_) (fun _ => ?_) | with_reducible refine condP_ne (fun _ => ?_) (fun _ => ?_) | with_reducible refine condP_not (condP_dec (fun _ => ?_) (fun _ => ?_)) | with_reducible refine condP_not (condP_eq (fun _ => ?_) (fun _ => ?_)) | with_reducible refine condP_not (condP_intro (fun _ => ?_) (fun _ => ?_)) | with_reducible refine condP_intro (fun _ => ?_) (fun _ => ?_))
  all_goals first | exact k | exact hA | rfl | exact dno (by omega) | skip

set_option maxRecDepth 100000 in
set_option maxHeartbeats 1000000 in
theorem c20b (s : Ar) (h : s.l.length ≤ 64) (hp : aPlace s.l s.f = true) (hA : Loops Try.prog 0 (loopN Try.prog 20 0) ((J0 s 3 0).as 120) (.exit 0) ((J0 s 3 s.l.length).as 120)) (hB : Loops Try.prog 0 (loopN Try.prog 20 1) ((J0 s 4 0).as 120) .ret ((R2 4).as 120)) : FnOK Try.prog 20 ([.d (arD s)]) ([]) (.d (.int .i64 4)) ([]) := by
  refine fnOK_wp (p := (D.bool (decide ((↑(List.map ceD s.l).length : Int) > (64 : Int))) = D.bool false) ∧ ((FnOK Try.prog (38 : Nat) [AV.d (D.agg [D.sl (List.map ceD s.l), D.int IntKind.i64 s.f, D.int IntKind.i64 s.u]), AV.d (D.int IntKind.i64 s.f)] [] (AV.d (D.bool true)) []) ∧ ((AV.ptr (1008 : Nat) (0 : Nat) = AV.ptr (1008 : Nat) (0 : Nat)) ∧ ((AV.d (D.int IntKind.i64 (0 : Int)) = AV.d (D.int IntKind.i64 (0 : Int))) ∧ ((Ob.box [AV.d (D.sl (List.map ceD s.l)), AV.d (D.int IntKind.i64 s.f), AV.d (D.int IntKind.i64 s.u)] = Ob.box [AV.d (D.sl (List.map ceD s.l)), AV.d (D.int IntKind.i64 s.f), AV.d (D.int IntKind.i64 s.u)]) ∧ ((LoopsS Try.prog (0 : Nat) (loopN Try.prog (20 : Nat) (0 : Nat)) (J0 s (3 : Nat) (0 : Nat)) (Exit.exit (0 : Nat)) (J0 s (3 : Nat) s.l.length) (120 : Nat)) ∧ ((AV.ptr (0 : Nat) (0 : Nat) = AV.ptr (0 : Nat) (0 : Nat)) ∧ ((AV.d (D.int IntKind.i64 (0 : Int)) = AV.d (D.int IntKind.i64 (0 : Int))) ∧ ((Ob.box [AV.d (D.sl (List.map ceD s.l)), AV.d (D.int IntKind.i64 s.f), AV.d (D.int IntKind.i64 s.u)] = Ob.box [AV.d (D.sl (List.map ceD s.l)), AV.d (D.int IntKind.i64 s.f), AV.d (D.int IntKind.i64 s.u)]) ∧ ((LoopsS Try.prog (0 : Nat) (loopN Try.prog (20 : Nat) (1 : Nat)) (J0 s (4 : Nat) (0 : Nat)) Exit.ret (R2 (4 : Int)) (120 : Nat)) ∧ ((AV.d (D.int IntKind.i64 (4 : Int)) = AV.d (D.int IntKind.i64 (4 : Int))) ∧ (True)))))))))))) (h := {H := [(1, [(3, .val (.bool false))])], G := [(38, gAns (.d (.bool true)))]}) (subs := [⟨[], [], J0 s 3 0, .exit 0, J0 s 3 s.l.length⟩, ⟨[], [], J0 s 4 0, .ret, R2 4⟩]) (ws := []) (ρ := []) (by kernel_rfl) ?_
  have k := place38 s s.f
  rw [hp] at k
  simp only [List.length_map]
  repeat' (first | with_reducible exact True.intro | with_reducible refine And.intro ?_ ?_ | with_reducible refine condP_dec (fun _ => ?_) (fun _ => ?_) | with_reducible refine condP_eq (fun _ => ?_) (fun _ => ?_) | with_reducible refine condP_ne (fun _ => ?_) (fun _ => ?_) | with_reducible refine condP_not (condP_dec (fun _ => ?_) (fun _ => ?_)) | with_reducible refine condP_not (condP_eq (fun _ => ?_) (fun _ => ?_)) | with_reducible refine condP_not (condP_intro (fun _ => ?_) (fun _ => ?_)) | with_reducible refine condP_intro (fun _ => ?_) (fun _ => ?_))
  all_goals first | exact k | exact hA | exact hB | rfl | exact dno (by omega) | skip

set_option maxRecDepth 100000 in
set_option maxHeartbeats 1000000 in
theorem c20c (s : Ar) (h : s.l.length ≤ 64) (hp : aPlace s.l s.f = true) (hA : Loops Try.prog 0 (loopN Try.prog 20 0) ((J0 s 3 0).as 120) (.exit 0) ((J0 s 3 s.l.length).as 120)) (hB : Loops Try.prog 0 (loopN Try.prog 20 1) ((J0 s 4 0).as 120) (.exit 2) ((J0 s 4 s.l.length).as 120)) (l : List Int) (hc : FnOK Try.prog 39 [.d (arD s)] [] (.d (.sl (inD l))) []) (he : s.u ≠ (aN s.l : Int) ∨ (l.length : Int) ≠ (s.l.length : Int) - aN s.l) : FnOK Try.prog 20 ([.d (arD s)]) ([]) (.d (.int .i64 10)) ([]) := by
  refine fnOK_wp (p := (D.bool (decide ((↑(List.map ceD s.l).length : Int) > (64 : Int))) = D.bool false) ∧ ((FnOK Try.prog (38 : Nat) [AV.d (D.agg [D.sl (List.map ceD s.l), D.int IntKind.i64 s.f, D.int IntKind.i64 s.u]), AV.d (D.int IntKind.i64 s.f)] [] (AV.d (D.bool true)) []) ∧ ((AV.ptr (1008 : Nat) (0 : Nat) = AV.ptr (1008 : Nat) (0 : Nat)) ∧ ((AV.d (D.int IntKind.i64 (0 : Int)) = AV.d (D.int IntKind.i64 (0 : Int))) ∧ ((Ob.box [AV.d (D.sl (List.map ceD s.l)), AV.d (D.int IntKind.i64 s.f), AV.d (D.int IntKind.i64 s.u)] = Ob.box [AV.d (D.sl (List.map ceD s.l)), AV.d (D.int IntKind.i64 s.f), AV.d (D.int IntKind.i64 s.u)]) ∧ ((LoopsS Try.prog (0 : Nat) (loopN Try.prog (20 : Nat) (0 : Nat)) (J0 s (3 : Nat) (0 : Nat)) (Exit.exit (0 : Nat)) (J0 s (3 : Nat) s.l.length) (120 : Nat)) ∧ ((AV.ptr (0 : Nat) (0 : Nat) = AV.ptr (0 : Nat) (0 : Nat)) ∧ ((AV.d (D.int IntKind.i64 (0 : Int)) = AV.d (D.int IntKind.i64 (0 : Int))) ∧ ((Ob.box [AV.d (D.sl (List.map ceD s.l)), AV.d (D.int IntKind.i64 s.f), AV.d (D.int IntKind.i64 s.u)] = Ob.box [AV.d (D.sl (List.map ceD s.l)), AV.d (D.int IntKind.i64 s.f), AV.d (D.int IntKind.i64 s.u)]) ∧ ((LoopsS Try.prog (0 : Nat) (loopN Try.prog (20 : Nat) (1 : Nat)) (J0 s (4 : Nat) (0 : Nat)) (Exit.exit (2 : Nat)) (J0 s (4 : Nat) s.l.length) (120 : Nat)) ∧ ((FnOK Try.prog (39 : Nat) [AV.d (D.agg [D.sl (List.map ceD s.l), D.int IntKind.i64 s.f, D.int IntKind.i64 s.u])] [] (AV.d (D.sl (inD l))) []) ∧ ((FnOK Try.prog (40 : Nat) [AV.d (D.agg [D.sl (List.map ceD s.l), D.int IntKind.i64 s.f, D.int IntKind.i64 s.u])] [] (AV.d (D.int IntKind.i64 (↑(aN s.l) : Int))) []) ∧ (condP (s.u != (↑(aN s.l) : Int)) ((D.bool (s.u != (↑(aN s.l) : Int)) = D.bool true) ∧ ((AV.d (D.int IntKind.i64 (10 : Int)) = AV.d (D.int IntKind.i64 (10 : Int))) ∧ (True))) ((D.bool (s.u != (↑(aN s.l) : Int)) = D.bool false) ∧ (condP ((↑(inD l).length : Int) != IntKind.i64.wrap ((↑(List.map ceD s.l).length : Int) - (↑(aN s.l) : Int))) ((AV.d (D.int IntKind.i64 (10 : Int)) = AV.d (D.int IntKind.i64 (10 : Int))) ∧ (True)) ((AV.ptr (0 : Nat) (0 : Nat) = AV.ptr (0 : Nat) (0 : Nat)) ∧ ((AV.d (D.sl (inD l)) = AV.d (D.sl (inD l))) ∧ ((AV.d (D.int IntKind.i64 (0 : Int)) = AV.d (D.int IntKind.i64 (0 : Int))) ∧ ((Ob.box [AV.d (D.sl (List.map ceD s.l)), AV.d (D.int IntKind.i64 s.f), AV.d (D.int IntKind.i64 s.u)] = Ob.box [AV.d (D.sl (List.map ceD s.l)), AV.d (D.int IntKind.i64 s.f), AV.d (D.int IntKind.i64 s.u)]) ∧ ((LoopsS Try.prog (0 : Nat) (loopN Try.prog (20 : Nat) (2 : Nat)) (L0 s l (0 : Nat)) Exit.ret (R2 (10 : Int)) (120 : Nat)) ∧ ((AV.d (D.int IntKind.i64 (10 : Int)) = AV.d (D.int IntKind.i64 (10 : Int))) ∧ (True)))))))))))))))))))))) (h := {H := [(1, [(3, .val (.bool false))])], G := [(38, gAns (.d (.bool true))), (39, gAns (.d (.sl (inD l)))), (40, gAns (.d (.int .i64 (aN s.l))))]}) (subs := [⟨[], [], J0 s 3 0, .exit 0, J0 s 3 s.l.length⟩, ⟨[], [], J0 s 4 0, .exit 2, J0 s 4 s.l.length⟩, ⟨[], [], L0 s l 0, .ret, R2 10⟩]) (ws := []) (ρ := []) (by kernel_rfl) ?_
  have k := place38 s s.f
  rw [hp] at k
  simp only [List.length_map]
  have kc := count40 s (by omega)
  have hln := inD_len l
  have hle := aN_le s.l
  have hw : IntKind.i64.wrap ((s.l.length : Int) - (aN s.l : Int)) = (s.l.length : Int) - (aN s.l : Int) := by rw [IntKind.wrap_i64]; omega
  simp only [hw, hln]
  repeat' (first | with_reducible exact True.intro | with_reducible refine And.intro ?_ ?_ | with_reducible refine condP_dec (fun _ => ?_) (fun _ => ?_) | with_reducible refine condP_eq (fun _ => ?_) (fun _ => ?_) | with_reducible refine condP_ne (fun _ => ?_) (fun _ => ?_) | with_reducible refine condP_not (condP_dec (fun _ => ?_) (fun _ => ?_)) | with_reducible refine condP_not (condP_eq (fun _ => ?_) (fun _ => ?_)) | with_reducible refine condP_not (condP_intro (fun _ => ?_) (fun _ => ?_)) | with_reducible refine condP_intro (fun _ => ?_) (fun _ => ?_))
  all_goals first | exact k | exact hA | exact hB | exact hc | exact kc | rfl | exact dno (by omega) | (refine congrArg D.bool ?_; simp_all; done) | (exfalso; simp_all; done) | (exfalso; simp_all; omega) | skip

set_option maxRecDepth 100000 in
set_option maxHeartbeats 1000000 in
theorem c20d (s : Ar) (h : s.l.length ≤ 64) (hp : aPlace s.l s.f = true) (hA : Loops Try.prog 0 (loopN Try.prog 20 0) ((J0 s 3 0).as 120) (.exit 0) ((J0 s 3 s.l.length).as 120)) (hB : Loops Try.prog 0 (loopN Try.prog 20 1) ((J0 s 4 0).as 120) (.exit 2) ((J0 s 4 s.l.length).as 120)) (l : List Int) (hc : FnOK Try.prog 39 [.d (arD s)] [] (.d (.sl (inD l))) []) (h1 : s.u = (aN s.l : Int)) (h2 : (l.length : Int) = (s.l.length : Int) - aN s.l) (hD : Loops Try.prog 0 (loopN Try.prog 20 2) ((L0 s l 0).as 120) .ret ((R2 10).as 120)) : FnOK Try.prog 20 ([.d (arD s)]) ([]) (.d (.int .i64 10)) ([]) := by
  refine fnOK_wp (p := (D.bool (decide ((↑(List.map ceD s.l).length : Int) > (64 : Int))) = D.bool false) ∧ ((FnOK Try.prog (38 : Nat) [AV.d (D.agg [D.sl (List.map ceD s.l), D.int IntKind.i64 s.f, D.int IntKind.i64 s.u]), AV.d (D.int IntKind.i64 s.f)] [] (AV.d (D.bool true)) []) ∧ ((AV.ptr (1008 : Nat) (0 : Nat) = AV.ptr (1008 : Nat) (0 : Nat)) ∧ ((AV.d (D.int IntKind.i64 (0 : Int)) = AV.d (D.int IntKind.i64 (0 : Int))) ∧ ((Ob.box [AV.d (D.sl (List.map ceD s.l)), AV.d (D.int IntKind.i64 s.f), AV.d (D.int IntKind.i64 s.u)] = Ob.box [AV.d (D.sl (List.map ceD s.l)), AV.d (D.int IntKind.i64 s.f), AV.d (D.int IntKind.i64 s.u)]) ∧ ((LoopsS Try.prog (0 : Nat) (loopN Try.prog (20 : Nat) (0 : Nat)) (J0 s (3 : Nat) (0 : Nat)) (Exit.exit (0 : Nat)) (J0 s (3 : Nat) s.l.length) (120 : Nat)) ∧ ((AV.ptr (0 : Nat) (0 : Nat) = AV.ptr (0 : Nat) (0 : Nat)) ∧ ((AV.d (D.int IntKind.i64 (0 : Int)) = AV.d (D.int IntKind.i64 (0 : Int))) ∧ ((Ob.box [AV.d (D.sl (List.map ceD s.l)), AV.d (D.int IntKind.i64 s.f), AV.d (D.int IntKind.i64 s.u)] = Ob.box [AV.d (D.sl (List.map ceD s.l)), AV.d (D.int IntKind.i64 s.f), AV.d (D.int IntKind.i64 s.u)]) ∧ ((LoopsS Try.prog (0 : Nat) (loopN Try.prog (20 : Nat) (1 : Nat)) (J0 s (4 : Nat) (0 : Nat)) (Exit.exit (2 : Nat)) (J0 s (4 : Nat) s.l.length) (120 : Nat)) ∧ ((FnOK Try.prog (39 : Nat) [AV.d (D.agg [D.sl (List.map ceD s.l), D.int IntKind.i64 s.f, D.int IntKind.i64 s.u])] [] (AV.d (D.sl (inD l))) []) ∧ ((FnOK Try.prog (40 : Nat) [AV.d (D.agg [D.sl (List.map ceD s.l), D.int IntKind.i64 s.f, D.int IntKind.i64 s.u])] [] (AV.d (D.int IntKind.i64 (↑(aN s.l) : Int))) []) ∧ (condP (s.u != (↑(aN s.l) : Int)) ((D.bool (s.u != (↑(aN s.l) : Int)) = D.bool true) ∧ ((AV.d (D.int IntKind.i64 (10 : Int)) = AV.d (D.int IntKind.i64 (10 : Int))) ∧ (True))) ((D.bool (s.u != (↑(aN s.l) : Int)) = D.bool false) ∧ (condP ((↑(inD l).length : Int) != IntKind.i64.wrap ((↑(List.map ceD s.l).length : Int) - (↑(aN s.l) : Int))) ((AV.d (D.int IntKind.i64 (10 : Int)) = AV.d (D.int IntKind.i64 (10 : Int))) ∧ (True)) ((AV.ptr (0 : Nat) (0 : Nat) = AV.ptr (0 : Nat) (0 : Nat)) ∧ ((AV.d (D.sl (inD l)) = AV.d (D.sl (inD l))) ∧ ((AV.d (D.int IntKind.i64 (0 : Int)) = AV.d (D.int IntKind.i64 (0 : Int))) ∧ ((Ob.box [AV.d (D.sl (List.map ceD s.l)), AV.d (D.int IntKind.i64 s.f), AV.d (D.int IntKind.i64 s.u)] = Ob.box [AV.d (D.sl (List.map ceD s.l)), AV.d (D.int IntKind.i64 s.f), AV.d (D.int IntKind.i64 s.u)]) ∧ ((LoopsS Try.prog (0 : Nat) (loopN Try.prog (20 : Nat) (2 : Nat)) (L0 s l (0 : Nat)) Exit.ret (R2 (10 : Int)) (120 : Nat)) ∧ ((AV.d (D.int IntKind.i64 (10 : Int)) = AV.d (D.int IntKind.i64 (10 : Int))) ∧ (True)))))))))))))))))))))) (h := {H := [(1, [(3, .val (.bool false))])], G := [(38, gAns (.d (.bool true))), (39, gAns (.d (.sl (inD l)))), (40, gAns (.d (.int .i64 (aN s.l))))]}) (subs := [⟨[], [], J0 s 3 0, .exit 0, J0 s 3 s.l.length⟩, ⟨[], [], J0 s 4 0, .exit 2, J0 s 4 s.l.length⟩, ⟨[], [], L0 s l 0, .ret, R2 10⟩]) (ws := []) (ρ := []) (by kernel_rfl) ?_
  have k := place38 s s.f
  rw [hp] at k
  simp only [List.length_map]
  have kc := count40 s (by omega)
  have hln := inD_len l
  have hle := aN_le s.l
  have hw : IntKind.i64.wrap ((s.l.length : Int) - (aN s.l : Int)) = (s.l.length : Int) - (aN s.l : Int) := by rw [IntKind.wrap_i64]; omega
  simp only [hw, hln]
  repeat' (first | with_reducible exact True.intro | with_reducible refine And.intro ?_ ?_ | with_reducible refine condP_dec (fun _ => ?_) (fun _ => ?_) | with_reducible refine condP_eq (fun _ => ?_) (fun _ => ?_) | with_reducible refine condP_ne (fun _ => ?_) (fun _ => ?_) | with_reducible refine condP_not (condP_dec (fun _ => ?_) (fun _ => ?_)) | with_reducible refine condP_not (condP_eq (fun _ => ?_) (fun _ => ?_)) | with_reducible refine condP_not (condP_intro (fun _ => ?_) (fun _ => ?_)) | with_reducible refine condP_intro (fun _ => ?_) (fun _ => ?_))
  all_goals first | exact k | exact hA | exact hB | exact hc | exact kc | exact hD | rfl | exact dno (by omega) | (refine congrArg D.bool ?_; simp_all; done) | skip

set_option maxRecDepth 100000 in
set_option maxHeartbeats 1000000 in
theorem c20y (s : Ar) (h : s.l.length ≤ 64) (hp : aPlace s.l s.f = true) (hA : Loops Try.prog 0 (loopN Try.prog 20 0) ((J0 s 3 0).as 120) (.exit 0) ((J0 s 3 s.l.length).as 120)) (hB : Loops Try.prog 0 (loopN Try.prog 20 1) ((J0 s 4 0).as 120) (.exit 2) ((J0 s 4 s.l.length).as 120)) (l : List Int) (hc : FnOK Try.prog 39 [.d (arD s)] [] (.d (.sl (inD l))) []) (h1 : s.u = (aN s.l : Int)) (h2 : (l.length : Int) = (s.l.length : Int) - aN s.l) (hD : Loops Try.prog 0 (loopN Try.prog 20 2) ((L0 s l 0).as 120) (.exit 4) ((L0 s l l.length).as 120)) : FnOK Try.prog 20 ([.d (arD s)]) ([]) (.d (.int .i64 0)) ([]) := by
  refine fnOK_wp (p := (D.bool (decide ((↑(List.map ceD s.l).length : Int) > (64 : Int))) = D.bool false) ∧ ((FnOK Try.prog (38 : Nat) [AV.d (D.agg [D.sl (List.map ceD s.l), D.int IntKind.i64 s.f, D.int IntKind.i64 s.u]), AV.d (D.int IntKind.i64 s.f)] [] (AV.d (D.bool true)) []) ∧ ((AV.ptr (1008 : Nat) (0 : Nat) = AV.ptr (1008 : Nat) (0 : Nat)) ∧ ((AV.d (D.int IntKind.i64 (0 : Int)) = AV.d (D.int IntKind.i64 (0 : Int))) ∧ ((Ob.box [AV.d (D.sl (List.map ceD s.l)), AV.d (D.int IntKind.i64 s.f), AV.d (D.int IntKind.i64 s.u)] = Ob.box [AV.d (D.sl (List.map ceD s.l)), AV.d (D.int IntKind.i64 s.f), AV.d (D.int IntKind.i64 s.u)]) ∧ ((LoopsS Try.prog (0 : Nat) (loopN Try.prog (20 : Nat) (0 : Nat)) (J0 s (3 : Nat) (0 : Nat)) (Exit.exit (0 : Nat)) (J0 s (3 : Nat) s.l.length) (120 : Nat)) ∧ ((AV.ptr (0 : Nat) (0 : Nat) = AV.ptr (0 : Nat) (0 : Nat)) ∧ ((AV.d (D.int IntKind.i64 (0 : Int)) = AV.d (D.int IntKind.i64 (0 : Int))) ∧ ((Ob.box [AV.d (D.sl (List.map ceD s.l)), AV.d (D.int IntKind.i64 s.f), AV.d (D.int IntKind.i64 s.u)] = Ob.box [AV.d (D.sl (List.map ceD s.l)), AV.d (D.int IntKind.i64 s.f), AV.d (D.int IntKind.i64 s.u)]) ∧ ((LoopsS Try.prog (0 : Nat) (loopN Try.prog (20 : Nat) (1 : Nat)) (J0 s (4 : Nat) (0 : Nat)) (Exit.exit (2 : Nat)) (J0 s (4 : Nat) s.l.length) (120 : Nat)) ∧ ((FnOK Try.prog (39 : Nat) [AV.d (D.agg [D.sl (List.map ceD s.l), D.int IntKind.i64 s.f, D.int IntKind.i64 s.u])] [] (AV.d (D.sl (inD l))) []) ∧ ((FnOK Try.prog (40 : Nat) [AV.d (D.agg [D.sl (List.map ceD s.l), D.int IntKind.i64 s.f, D.int IntKind.i64 s.u])] [] (AV.d (D.int IntKind.i64 (↑(aN s.l) : Int))) []) ∧ (condP (s.u != (↑(aN s.l) : Int)) ((D.bool (s.u != (↑(aN s.l) : Int)) = D.bool true) ∧ ((AV.d (D.int IntKind.i64 (10 : Int)) = AV.d (D.int IntKind.i64 (0 : Int))) ∧ (True))) ((D.bool (s.u != (↑(aN s.l) : Int)) = D.bool false) ∧ (condP ((↑(inD l).length : Int) != IntKind.i64.wrap ((↑(List.map ceD s.l).length : Int) - (↑(aN s.l) : Int))) ((AV.d (D.int IntKind.i64 (10 : Int)) = AV.d (D.int IntKind.i64 (0 : Int))) ∧ (True)) ((AV.ptr (0 : Nat) (0 : Nat) = AV.ptr (0 : Nat) (0 : Nat)) ∧ ((AV.d (D.sl (inD l)) = AV.d (D.sl (inD l))) ∧ ((AV.d (D.int IntKind.i64 (0 : Int)) = AV.d (D.int IntKind.i64 (0 : Int))) ∧ ((Ob.box [AV.d (D.sl (List.map ceD s.l)), AV.d (D.int IntKind.i64 s.f), AV.d (D.int IntKind.i64 s.u)] = Ob.box [AV.d (D.sl (List.map ceD s.l)), AV.d (D.int IntKind.i64 s.f), AV.d (D.int IntKind.i64 s.u)]) ∧ ((LoopsS Try.prog (0 : Nat) (loopN Try.prog (20 : Nat) (2 : Nat)) (L0 s l (0 : Nat)) (Exit.exit (4 : Nat)) (L0 s l l.length) (120 : Nat)) ∧ ((AV.d (D.int IntKind.i64 (0 : Int)) = AV.d (D.int IntKind.i64 (0 : Int))) ∧ (True)))))))))))))))))))))) (h := {H := [(1, [(3, .val (.bool false))])], G := [(38, gAns (.d (.bool true))), (39, gAns (.d (.sl (inD l)))), (40, gAns (.d (.int .i64 (aN s.l))))]}) (subs := [⟨[], [], J0 s 3 0, .exit 0, J0 s 3 s.l.length⟩, ⟨[], [], J0 s 4 0, .exit 2, J0 s 4 s.l.length⟩, ⟨[], [], L0 s l 0, .exit 4, L0 s l l.length⟩]) (ws := []) (ρ := []) (by kernel_rfl) ?_
  have k := place38 s s.f
  rw [hp] at k
  simp only [List.length_map]
  have kc := count40 s (by omega)
  have hln := inD_len l
  have hle := aN_le s.l
  have hw : IntKind.i64.wrap ((s.l.length : Int) - (aN s.l : Int)) = (s.l.length : Int) - (aN s.l : Int) := by rw [IntKind.wrap_i64]; omega
  simp only [hw, hln]
  repeat' (first | with_reducible exact True.intro | with_reducible refine And.intro ?_ ?_ | with_reducible refine condP_dec (fun _ => ?_) (fun _ => ?_) | with_reducible refine condP_eq (fun _ => ?_) (fun _ => ?_) | with_reducible refine condP_ne (fun _ => ?_) (fun _ => ?_) | with_reducible refine condP_not (condP_dec (fun _ => ?_) (fun _ => ?_)) | with_reducible refine condP_not (condP_eq (fun _ => ?_) (fun _ => ?_)) | with_reducible refine condP_not (condP_intro (fun _ => ?_) (fun _ => ?_)) | with_reducible refine condP_intro (fun _ => ?_) (fun _ => ?_))
  all_goals first | exact k | exact hA | exact hB | exact hc | exact kc | exact hD | rfl | exact dno (by omega) | (refine congrArg D.bool ?_; simp_all; done) | (exfalso; simp_all; done) | skip

theorem rCh_mem {l : List Ce} (hp : Pl l) : ∀ (n : Nat) (a : Int) (out : List Int), (-1 ≤ a ∧ a < (l.length : Int)) → (∀ x ∈ out, 0 ≤ x ∧ x < (l.length : Int)) → ∀ x ∈ rCh l n a out, 0 ≤ x ∧ x < (l.length : Int)
  | 0, a, out, _, ho => ho
  | n + 1, a, out, ha, ho => by
    unfold rCh
    split
    · next h =>
      refine rCh_mem hp n _ _ (link_pl hp h ha.2) fun x hx => ?_
      rcases List.mem_append.1 hx with hx | hx
      · exact ho x hx
      · rw [List.mem_singleton.1 hx]; exact ⟨h, ha.2⟩
    · exact ho
theorem chk20 (s : Ar) (hl : s.l.length < 1000000) : FnOK Try.prog 20 [.d (arD s)] [] (.d (.int .i64 (aChk s))) [] := by
  unfold aChk
  by_cases h : 64 < s.l.length
  · rw [if_pos h]; exact c20l s h
  · rw [if_neg h]
    have h' : s.l.length ≤ 64 := by omega
    cases hp : aPlace s.l s.f
    · rw [if_pos (.inl rfl)]; exact c20p s h' hp
    · cases h3 : s.l.any (aStray s.l)
      · rw [if_neg (by simp)]
        have hA := (la s hl).1 h3
        cases h4 : s.l.any aOdd
        · rw [if_neg (by simp)]
          have hB := (lb s hl).1 h4
          obtain ⟨p1, p2⟩ := pl_of hp h3 h4
          have hc := chain39' s p1 p2 hl
          have hi := err_iff p1 p2
          have hln : (chR s).length < 1000000 := by have := rCh_len s.l (s.l.length + 1) s.f []; simp at this; show (rCh s.l (s.l.length + 1) s.f []).length < _; omega
          have hm : ∀ x ∈ chR s, 0 ≤ x ∧ x < (s.l.length : Int) := rCh_mem p1 _ _ _ p2 (by simp)
          by_cases e1 : s.u ≠ (aN s.l : Int) ∨ ((chR s).length : Int) ≠ (s.l.length : Int) - aN s.l
          · have he : aErr s = true := hi.2 (e1.elim .inl fun g => .inr (.inl g))
            rw [if_pos he]
            exact c20c s h' hp hA hB _ hc e1
          · have g1 : s.u = (aN s.l : Int) := Classical.byContradiction fun g => e1 (.inl g)
            have g2 : ((chR s).length : Int) = (s.l.length : Int) - aN s.l := Classical.byContradiction fun g => e1 (.inr g)
            by_cases e2 : (∀ x ∈ chR s, liveAt s.l x = false) ∧ (chR s).Nodup
            · have he : ¬aErr s = true := fun g => by
                rcases hi.1 g with g | g | ⟨x, hx, g⟩ | g
                · exact g g1
                · exact g g2
                · rw [e2.1 x hx] at g; cases g
                · exact g e2.2
              rw [if_neg he]
              exact c20y s h' hp hA hB _ hc g1 g2 ((ld s _ hln hm).1 e2)
            · have he : aErr s = true := by
                refine hi.2 ?_
                by_cases e3 : (chR s).Nodup
                · refine .inr (.inr (.inl ?_))
                  apply Classical.byContradiction
                  intro g
                  refine e2 ⟨fun x hx => ?_, e3⟩
                  cases q : liveAt s.l x
                  · rfl
                  · exact absurd ⟨x, hx, q⟩ g
                · exact .inr (.inr (.inr e3))
              rw [if_pos he]
              exact c20d s h' hp hA hB _ hc g1 g2 ((ld s _ hln hm).2 e2)
        · rw [if_pos rfl]
          exact c20b s h' hp hA ((lb s hl).2 h4)
      · rw [if_pos (.inr rfl)]
        exact c20a s h' hp ((la s hl).2 h3)
end Go.Proofs.Ytgdifegembfjoaa
