/-
laws 12: the document's: whether a byte is there.
-/
import Derived.Test.YtfacpafkldmkcaaC12S9
set_option linter.unusedSimpArgs false
set_option linter.unusedVariables false
namespace Go.Proofs.Ytfacpafkldmkcaa.C12
open Sx Go.RowKit

def inB (k : Int) (x : Pt) : Bool := decide (x.a ≤ k ∧ k < pEnd x)
def I37 (s : Rq) (k : Int) (j : Nat) : St := ⟨[(1, .d (.int .i64 k)), (2, .ptr 0 0), (5, .d (.int .i64 j))], [(0, rqB s)]⟩
def O37 : St := ⟨[(4, .d (.bool true))], []⟩
set_option maxRecDepth 100000 in
set_option maxHeartbeats 1000000 in
theorem r37a (s : Rq) (hp : s.p.length < 1000000) (k : Int) (j : Nat) (x : Pt) (sx : Sm x) (hn : s.p[j]? = some x) (h : ¬x.a ≤ k) : Runs Try.prog 0 (loopN Try.prog 49 0) (St.as (I37 s k j) 39) (.normal) (St.as (I37 s k (j+1)) 39) := by
  refine round_wp (p := condP (decide ((↑j : Int) < (↑(List.map ptD s.p).length : Int))) (((0 : Int) ≤ (↑j : Int)) ∧ (((List.map ptD s.p)[(↑j : Int).toNat]? = some (D.agg [D.int IntKind.i64 x.a, D.str x.d])) ∧ ((D.bool (decide (k ≥ x.a)) = D.bool false) ∧ ((D.bool false = D.bool false) ∧ ((AV.d (D.int IntKind.i64 k) = AV.d (D.int IntKind.i64 k)) ∧ ((AV.ptr (0 : Nat) (0 : Nat) = AV.ptr (0 : Nat) (0 : Nat)) ∧ ((AV.d (D.int IntKind.i64 (IntKind.i64.wrap ((↑j : Int) + (1 : Int)))) = AV.d (D.int IntKind.i64 (↑(j + (1 : Nat)) : Int))) ∧ ((Ob.box [AV.d (D.int IntKind.i64 s.b), AV.d (D.str s.r), AV.d (D.sl (List.map ptD s.p))] = Ob.box [AV.d (D.int IntKind.i64 s.b), AV.d (D.str s.r), AV.d (D.sl (List.map ptD s.p))]) ∧ (True))))))))) (False)) (h := {els := [(15, .el (ptD x)), (24, .el (ptD x)), (30, .el (ptD x))], H := [(4, [(7, .val (.bool false))])]}) (subs := []) (ws := []) (ρ := []) (by kernel_rfl) ?_
  have hj := get_lt hn
  have hi := inc_i64 (j := j) (by omega)
  have hw : IntKind.i64.wrap (x.a + x.d.length) = pEnd x := sx.e
  try rw [hi]
  simp only [List.length_map, hw]
  refine condP_t (by rw [decide_eq_true_eq]; omega) ?_
  repeat' (first | with_reducible exact True.intro | with_reducible refine And.intro ?_ ?_ | with_reducible refine condP_dec (fun _ => ?_) (fun _ => ?_) | with_reducible refine condP_eq (fun _ => ?_) (fun _ => ?_) | with_reducible refine condP_ne (fun _ => ?_) (fun _ => ?_) | with_reducible refine condP_not (condP_dec (fun _ => ?_) (fun _ => ?_)) | with_reducible refine condP_not (condP_eq (fun _ => ?_) (fun _ => ?_)) | with_reducible refine condP_not (condP_intro (fun _ => ?_) (fun _ => ?_)) | with_reducible refine condP_intro (fun _ => ?_) (fun _ => ?_))
  all_goals first | exact el_map hn rfl | rfl | omega | exact dyes (by omega) | exact dno (by omega) | skip

set_option maxRecDepth 100000 in
set_option maxHeartbeats 1000000 in
theorem r37b (s : Rq) (hp : s.p.length < 1000000) (k : Int) (j : Nat) (x : Pt) (sx : Sm x) (hn : s.p[j]? = some x) (h : x.a ≤ k) (h2 : ¬k < pEnd x) : Runs Try.prog 0 (loopN Try.prog 49 0) (St.as (I37 s k j) 39) (.normal) (St.as (I37 s k (j+1)) 39) := by
  refine round_wp (p := condP (decide ((↑j : Int) < (↑(List.map ptD s.p).length : Int))) (((0 : Int) ≤ (↑j : Int)) ∧ (((List.map ptD s.p)[(↑j : Int).toNat]? = some (D.agg [D.int IntKind.i64 x.a, D.str x.d])) ∧ ((D.bool (decide (k ≥ x.a)) = D.bool true) ∧ ((D.bool true = D.bool true) ∧ (((0 : Int) ≤ (↑j : Int)) ∧ (((List.map ptD s.p)[(↑j : Int).toNat]? = some (D.agg [D.int IntKind.i64 x.a, D.str x.d])) ∧ (((0 : Int) ≤ (↑j : Int)) ∧ (((List.map ptD s.p)[(↑j : Int).toNat]? = some (D.agg [D.int IntKind.i64 x.a, D.str x.d])) ∧ ((D.bool (decide (k < IntKind.i64.wrap (x.a + (↑x.d.length : Int)))) = D.bool false) ∧ ((AV.d (D.int IntKind.i64 k) = AV.d (D.int IntKind.i64 k)) ∧ ((AV.ptr (0 : Nat) (0 : Nat) = AV.ptr (0 : Nat) (0 : Nat)) ∧ ((AV.d (D.int IntKind.i64 (IntKind.i64.wrap ((↑j : Int) + (1 : Int)))) = AV.d (D.int IntKind.i64 (↑(j + (1 : Nat)) : Int))) ∧ ((Ob.box [AV.d (D.int IntKind.i64 s.b), AV.d (D.str s.r), AV.d (D.sl (List.map ptD s.p))] = Ob.box [AV.d (D.int IntKind.i64 s.b), AV.d (D.str s.r), AV.d (D.sl (List.map ptD s.p))]) ∧ (True)))))))))))))) (False)) (h := {els := [(15, .el (ptD x)), (24, .el (ptD x)), (30, .el (ptD x))], H := [(4, [(7, .val (.bool true)), (24, .val (.bool false))])]}) (subs := []) (ws := []) (ρ := []) (by kernel_rfl) ?_
  have hj := get_lt hn
  have hi := inc_i64 (j := j) (by omega)
  have hw : IntKind.i64.wrap (x.a + x.d.length) = pEnd x := sx.e
  try rw [hi]
  simp only [List.length_map, hw]
  refine condP_t (by rw [decide_eq_true_eq]; omega) ?_
  repeat' (first | with_reducible exact True.intro | with_reducible refine And.intro ?_ ?_ | with_reducible refine condP_dec (fun _ => ?_) (fun _ => ?_) | with_reducible refine condP_eq (fun _ => ?_) (fun _ => ?_) | with_reducible refine condP_ne (fun _ => ?_) (fun _ => ?_) | with_reducible refine condP_not (condP_dec (fun _ => ?_) (fun _ => ?_)) | with_reducible refine condP_not (condP_eq (fun _ => ?_) (fun _ => ?_)) | with_reducible refine condP_not (condP_intro (fun _ => ?_) (fun _ => ?_)) | with_reducible refine condP_intro (fun _ => ?_) (fun _ => ?_))
  all_goals first | exact el_map hn rfl | rfl | omega | exact dyes (by omega) | exact dno (by omega) | skip

set_option maxRecDepth 100000 in
set_option maxHeartbeats 1000000 in
theorem e37 (s : Rq) (hp : s.p.length < 1000000) (k : Int) (j : Nat) (x : Pt) (sx : Sm x) (hn : s.p[j]? = some x) (h : x.a ≤ k) (h2 : k < pEnd x) : Runs Try.prog 0 (loopN Try.prog 49 0) (St.as (I37 s k j) 39) (.ret) (St.as (O37) 39) := by
  refine round_wp (p := condP (decide ((↑j : Int) < (↑(List.map ptD s.p).length : Int))) (((0 : Int) ≤ (↑j : Int)) ∧ (((List.map ptD s.p)[(↑j : Int).toNat]? = some (D.agg [D.int IntKind.i64 x.a, D.str x.d])) ∧ ((D.bool (decide (k ≥ x.a)) = D.bool true) ∧ ((D.bool true = D.bool true) ∧ (((0 : Int) ≤ (↑j : Int)) ∧ (((List.map ptD s.p)[(↑j : Int).toNat]? = some (D.agg [D.int IntKind.i64 x.a, D.str x.d])) ∧ (((0 : Int) ≤ (↑j : Int)) ∧ (((List.map ptD s.p)[(↑j : Int).toNat]? = some (D.agg [D.int IntKind.i64 x.a, D.str x.d])) ∧ ((D.bool (decide (k < IntKind.i64.wrap (x.a + (↑x.d.length : Int)))) = D.bool true) ∧ ((AV.d (D.bool true) = AV.d (D.bool true)) ∧ (True))))))))))) (False)) (h := {els := [(15, .el (ptD x)), (24, .el (ptD x)), (30, .el (ptD x))], H := [(4, [(7, .val (.bool true)), (24, .val (.bool true))])]}) (subs := []) (ws := []) (ρ := []) (by kernel_rfl) ?_
  have hj := get_lt hn
  have hi := inc_i64 (j := j) (by omega)
  have hw : IntKind.i64.wrap (x.a + x.d.length) = pEnd x := sx.e
  try rw [hi]
  simp only [List.length_map, hw]
  refine condP_t (by rw [decide_eq_true_eq]; omega) ?_
  repeat' (first | with_reducible exact True.intro | with_reducible refine And.intro ?_ ?_ | with_reducible refine condP_dec (fun _ => ?_) (fun _ => ?_) | with_reducible refine condP_eq (fun _ => ?_) (fun _ => ?_) | with_reducible refine condP_ne (fun _ => ?_) (fun _ => ?_) | with_reducible refine condP_not (condP_dec (fun _ => ?_) (fun _ => ?_)) | with_reducible refine condP_not (condP_eq (fun _ => ?_) (fun _ => ?_)) | with_reducible refine condP_not (condP_intro (fun _ => ?_) (fun _ => ?_)) | with_reducible refine condP_intro (fun _ => ?_) (fun _ => ?_))
  all_goals first | exact el_map hn rfl | rfl | omega | exact dyes (by omega) | exact dno (by omega) | skip

set_option maxRecDepth 100000 in
set_option maxHeartbeats 1000000 in
theorem q37 (s : Rq) (k : Int) : Runs Try.prog 0 (loopN Try.prog 49 0) (St.as (I37 s k s.p.length) 39) (.exit 0) (St.as (I37 s k s.p.length) 39) := by
  refine round_wp (p := condP (decide ((↑s.p.length : Int) < (↑(List.map ptD s.p).length : Int))) (False) ((AV.d (D.int IntKind.i64 k) = AV.d (D.int IntKind.i64 k)) ∧ ((AV.ptr (0 : Nat) (0 : Nat) = AV.ptr (0 : Nat) (0 : Nat)) ∧ ((AV.d (D.int IntKind.i64 (↑s.p.length : Int)) = AV.d (D.int IntKind.i64 (↑s.p.length : Int))) ∧ ((Ob.box [AV.d (D.int IntKind.i64 s.b), AV.d (D.str s.r), AV.d (D.sl (List.map ptD s.p))] = Ob.box [AV.d (D.int IntKind.i64 s.b), AV.d (D.str s.r), AV.d (D.sl (List.map ptD s.p))]) ∧ (True)))))) (h := {}) (subs := []) (ws := []) (ρ := []) (by kernel_rfl) ?_
  repeat' (first | with_reducible exact True.intro | with_reducible refine And.intro ?_ ?_ | with_reducible refine condP_dec (fun _ => ?_) (fun _ => ?_) | with_reducible refine condP_eq (fun _ => ?_) (fun _ => ?_) | with_reducible refine condP_ne (fun _ => ?_) (fun _ => ?_) | with_reducible refine condP_not (condP_dec (fun _ => ?_) (fun _ => ?_)) | with_reducible refine condP_not (condP_eq (fun _ => ?_) (fun _ => ?_)) | with_reducible refine condP_not (condP_intro (fun _ => ?_) (fun _ => ?_)) | with_reducible refine condP_intro (fun _ => ?_) (fun _ => ?_))
  all_goals (try simp only [List.length_map, AV.d.injEq, D.int.injEq, D.bool.injEq, D.str.injEq, D.sl.injEq, true_and, and_true, decide_eq_true_eq, decide_eq_false_iff_not, decide_eq_decide])
  all_goals (try simp only [List.length_map] at *)
  all_goals first | rfl | omega

set_option maxRecDepth 100000 in
set_option maxHeartbeats 1000000 in
theorem have37n (s : Rq) (k : Int) (hL : Loops Try.prog 0 (loopN Try.prog 49 0) ((I37 s k 0).as 39) (.exit 0) ((I37 s k s.p.length).as 39)) : FnOK Try.prog 49 ([.d (rqD s), .d (.int .i64 k)]) ([]) (.d (.bool false)) ([]) := by
  refine fnOK_wp (p := (AV.d (D.int IntKind.i64 k) = AV.d (D.int IntKind.i64 k)) ∧ ((AV.ptr (1016 : Nat) (0 : Nat) = AV.ptr (1016 : Nat) (0 : Nat)) ∧ ((AV.d (D.int IntKind.i64 (0 : Int)) = AV.d (D.int IntKind.i64 (0 : Int))) ∧ ((Ob.box [AV.d (D.int IntKind.i64 s.b), AV.d (D.str s.r), AV.d (D.sl (List.map ptD s.p))] = Ob.box [AV.d (D.int IntKind.i64 s.b), AV.d (D.str s.r), AV.d (D.sl (List.map ptD s.p))]) ∧ ((LoopsS Try.prog (0 : Nat) (loopN Try.prog (49 : Nat) (0 : Nat)) (I37 s k (0 : Nat)) (Exit.exit (0 : Nat)) (I37 s k s.p.length) (39 : Nat)) ∧ ((AV.d (D.bool false) = AV.d (D.bool false)) ∧ (True))))))) (h := {}) (subs := [⟨[], [], I37 s k 0, .exit 0, I37 s k s.p.length⟩]) (ws := []) (ρ := []) (by kernel_rfl) ?_
  repeat' (first | with_reducible exact True.intro | with_reducible refine And.intro ?_ ?_ | with_reducible refine condP_dec (fun _ => ?_) (fun _ => ?_) | with_reducible refine condP_eq (fun _ => ?_) (fun _ => ?_) | with_reducible refine condP_ne (fun _ => ?_) (fun _ => ?_) | with_reducible refine condP_not (condP_dec (fun _ => ?_) (fun _ => ?_)) | with_reducible refine condP_not (condP_eq (fun _ => ?_) (fun _ => ?_)) | with_reducible refine condP_not (condP_intro (fun _ => ?_) (fun _ => ?_)) | with_reducible refine condP_intro (fun _ => ?_) (fun _ => ?_))
  all_goals first | exact hL | rfl | trivial

set_option maxRecDepth 100000 in
set_option maxHeartbeats 1000000 in
theorem have37y (s : Rq) (k : Int) (hL : Loops Try.prog 0 (loopN Try.prog 49 0) ((I37 s k 0).as 39) .ret ((O37).as 39)) : FnOK Try.prog 49 ([.d (rqD s), .d (.int .i64 k)]) ([]) (.d (.bool true)) ([]) := by
  refine fnOK_wp (p := (AV.d (D.int IntKind.i64 k) = AV.d (D.int IntKind.i64 k)) ∧ ((AV.ptr (1016 : Nat) (0 : Nat) = AV.ptr (1016 : Nat) (0 : Nat)) ∧ ((AV.d (D.int IntKind.i64 (0 : Int)) = AV.d (D.int IntKind.i64 (0 : Int))) ∧ ((Ob.box [AV.d (D.int IntKind.i64 s.b), AV.d (D.str s.r), AV.d (D.sl (List.map ptD s.p))] = Ob.box [AV.d (D.int IntKind.i64 s.b), AV.d (D.str s.r), AV.d (D.sl (List.map ptD s.p))]) ∧ ((LoopsS Try.prog (0 : Nat) (loopN Try.prog (49 : Nat) (0 : Nat)) (I37 s k (0 : Nat)) Exit.ret O37 (39 : Nat)) ∧ ((AV.d (D.bool true) = AV.d (D.bool true)) ∧ (True))))))) (h := {}) (subs := [⟨[], [], I37 s k 0, .ret, O37⟩]) (ws := []) (ρ := []) (by kernel_rfl) ?_
  repeat' (first | with_reducible exact True.intro | with_reducible refine And.intro ?_ ?_ | with_reducible refine condP_dec (fun _ => ?_) (fun _ => ?_) | with_reducible refine condP_eq (fun _ => ?_) (fun _ => ?_) | with_reducible refine condP_ne (fun _ => ?_) (fun _ => ?_) | with_reducible refine condP_not (condP_dec (fun _ => ?_) (fun _ => ?_)) | with_reducible refine condP_not (condP_eq (fun _ => ?_) (fun _ => ?_)) | with_reducible refine condP_not (condP_intro (fun _ => ?_) (fun _ => ?_)) | with_reducible refine condP_intro (fun _ => ?_) (fun _ => ?_))
  all_goals first | exact hL | rfl | trivial

theorem have37 (s : Rq) (hp : s.p.length < 1000000) (hs : ∀ y ∈ s.p, Sm y) (k : Int) : FnOK Try.prog 49 [.d (rqD s), .d (.int .i64 k)] [] (.d (.bool (s.p.any (inB k)))) [] := by
  have step : ∀ (j : Nat) (x : Pt), s.p[j]? = some x → inB k x = false → Runs Try.prog 0 (loopN Try.prog 49 0) ((I37 s k j).as 39) .normal ((I37 s k (j + 1)).as 39) := fun j x hn hx => by
    have hx := of_decide_eq_false hx
    by_cases h : x.a ≤ k
    · exact r37b s hp k j x (hs x (get_mem hn)) hn h (by omega)
    · exact r37a s hp k j x (hs x (get_mem hn)) hn h
  rcases all_or (fun x => inB k x = false) s.p with h | ⟨m, x, h1, h2, h3⟩
  · have e : s.p.any (inB k) = false := by rw [List.any_eq_false]; intro x hx; rw [h x hx]; simp
    rw [e]
    exact have37n s k (loops_n (I := fun j => (I37 s k j).as 39) (by simp) s.p.length 0 (by omega) (fun j _ hj => step j _ (get_of hj) (h _ (List.getElem_mem hj))) (q37 s k))
  · have hm := get_lt h1
    have h2 : inB k x = true := by cases g : inB k x; exact absurd g h2; rfl
    have e : s.p.any (inB k) = true := List.any_eq_true.2 ⟨x, get_mem h1, h2⟩
    rw [e]
    have h4 := of_decide_eq_true h2
    exact have37y s k (loops_n (I := fun j => (I37 s k j).as 39) (by simp) m 0 (by omega) (fun j _ hj => step j (s.p[j]'(by omega)) (get_of _) (h3 j _ hj (get_of _))) (e37 s hp k m x (hs x (get_mem h1)) h1 h4.1 h4.2))
end Go.Proofs.Ytfacpafkldmkcaa.C12
