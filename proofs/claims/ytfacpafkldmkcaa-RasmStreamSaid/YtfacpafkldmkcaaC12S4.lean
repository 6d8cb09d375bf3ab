/-
laws 12: whether two are one; over and back; light ones; what is read.
-/
import Derived.Test.YtfacpafkldmkcaaC12S3
set_option linter.unusedSimpArgs false
set_option linter.unusedVariables false
namespace Go.Proofs.Ytfacpafkldmkcaa.C12
open Sx Go.RowKit

theorem rq_ne {a b : Rq} (h : ¬(a.b = b.b ∧ a.r = b.r ∧ a.p = b.p)) : decide (a = b) = false := decide_eq_false fun e => h (by rw [e]; exact ⟨rfl, rfl, rfl⟩)
theorem rq_eq {a b : Rq} (h : a.b = b.b ∧ a.r = b.r ∧ a.p = b.p) : decide (a = b) = true := decide_eq_true (by
  obtain ⟨l, f, u⟩ := a
  obtain ⟨l', f', u'⟩ := b
  obtain ⟨rfl, rfl, rfl⟩ := h
  rfl)
set_option maxRecDepth 100000 in
set_option maxHeartbeats 1000000 in
theorem same19f (a b : Rq) (h : a.b ≠ b.b) : FnOK Try.prog 38 ([.d (rqD a), .d (rqD b)]) ([]) (.d (.bool false)) ([]) := by
  refine fnOK_wp (p := (D.bool (a.b == b.b) = D.bool false) ∧ ((D.bool false = D.bool false) ∧ ((D.bool false = D.bool false) ∧ ((AV.d (D.bool false) = AV.d (D.bool false)) ∧ (True))))) (h := {H := [(1, [(4, .val (.bool false))])]}) (subs := []) (ws := []) (ρ := []) (by kernel_rfl) ?_
  repeat' (first | with_reducible exact True.intro | with_reducible refine And.intro ?_ ?_ | with_reducible refine condP_dec (fun _ => ?_) (fun _ => ?_) | with_reducible refine condP_eq (fun _ => ?_) (fun _ => ?_) | with_reducible refine condP_ne (fun _ => ?_) (fun _ => ?_) | with_reducible refine condP_not (condP_dec (fun _ => ?_) (fun _ => ?_)) | with_reducible refine condP_not (condP_eq (fun _ => ?_) (fun _ => ?_)) | with_reducible refine condP_not (condP_intro (fun _ => ?_) (fun _ => ?_)) | with_reducible refine condP_intro (fun _ => ?_) (fun _ => ?_))
  all_goals first | exact k | rfl | (refine congrArg D.bool ?_; simp_all; done) | skip

set_option maxRecDepth 100000 in
set_option maxHeartbeats 1000000 in
theorem same19u (a b : Rq) (h : a.b = b.b) (h2 : a.r ≠ b.r) : FnOK Try.prog 38 ([.d (rqD a), .d (rqD b)]) ([]) (.d (.bool false)) ([]) := by
  refine fnOK_wp (p := (D.bool (a.b == b.b) = D.bool true) ∧ ((D.bool true = D.bool true) ∧ ((D.bool (a.r == b.r) = D.bool false) ∧ ((D.bool false = D.bool false) ∧ ((AV.d (D.bool false) = AV.d (D.bool false)) ∧ (True)))))) (h := {H := [(1, [(4, .val (.bool true)), (10, .val (.bool false))])]}) (subs := []) (ws := []) (ρ := []) (by kernel_rfl) ?_
  repeat' (first | with_reducible exact True.intro | with_reducible refine And.intro ?_ ?_ | with_reducible refine condP_dec (fun _ => ?_) (fun _ => ?_) | with_reducible refine condP_eq (fun _ => ?_) (fun _ => ?_) | with_reducible refine condP_ne (fun _ => ?_) (fun _ => ?_) | with_reducible refine condP_not (condP_dec (fun _ => ?_) (fun _ => ?_)) | with_reducible refine condP_not (condP_eq (fun _ => ?_) (fun _ => ?_)) | with_reducible refine condP_not (condP_intro (fun _ => ?_) (fun _ => ?_)) | with_reducible refine condP_intro (fun _ => ?_) (fun _ => ?_))
  all_goals first | exact k | rfl | (refine congrArg D.bool ?_; simp_all; done) | skip

set_option maxRecDepth 100000 in
set_option maxHeartbeats 1000000 in
theorem same19y (a b : Rq) (h : a.b = b.b) (h2 : a.r = b.r) (q : Bool) (k : FnOK Try.prog 48 [.d (.sl (a.p.map ptD)), .d (.sl (b.p.map ptD))] [] (.d (.bool q)) []) : FnOK Try.prog 38 ([.d (rqD a), .d (rqD b)]) ([]) (.d (.bool q)) ([]) := by
  refine fnOK_wp (p := (D.bool (a.b == b.b) = D.bool true) ∧ ((D.bool true = D.bool true) ∧ ((D.bool (a.r == b.r) = D.bool true) ∧ ((D.bool true = D.bool true) ∧ ((FnOK Try.prog (48 : Nat) [AV.d (D.sl (List.map ptD a.p)), AV.d (D.sl (List.map ptD b.p))] [] (AV.d (D.bool q)) []) ∧ ((AV.d (D.bool q) = AV.d (D.bool q)) ∧ (True))))))) (h := {H := [(1, [(4, .val (.bool true)), (10, .val (.bool true)), (17, .call [] (.d (.bool q)) [])])]}) (subs := []) (ws := []) (ρ := []) (by kernel_rfl) ?_
  repeat' (first | with_reducible exact True.intro | with_reducible refine And.intro ?_ ?_ | with_reducible refine condP_dec (fun _ => ?_) (fun _ => ?_) | with_reducible refine condP_eq (fun _ => ?_) (fun _ => ?_) | with_reducible refine condP_ne (fun _ => ?_) (fun _ => ?_) | with_reducible refine condP_not (condP_dec (fun _ => ?_) (fun _ => ?_)) | with_reducible refine condP_not (condP_eq (fun _ => ?_) (fun _ => ?_)) | with_reducible refine condP_not (condP_intro (fun _ => ?_) (fun _ => ?_)) | with_reducible refine condP_intro (fun _ => ?_) (fun _ => ?_))
  all_goals first | exact k | rfl | (refine congrArg D.bool ?_; simp_all; done) | skip

theorem same19 (a b : Rq) (hl : a.p.length < 1000000) : FnOK Try.prog 38 [.d (rqD a), .d (rqD b)] [] (.d (.bool (decide (a = b)))) [] := by
  by_cases h : a.b = b.b
  · by_cases h2 : a.r = b.r
    · have e : decide (a = b) = decide (a.p = b.p) := by
        by_cases h3 : a.p = b.p
        · rw [rq_eq ⟨h, h2, h3⟩, decide_eq_true h3]
        · rw [rq_ne (fun g => h3 g.2.2), decide_eq_false h3]
      rw [e]
      exact same19y a b h h2 _ (ptD_equal a.p b.p (by omega))
    · rw [rq_ne (fun g => h2 g.2.1)]; exact same19u a b h h2
  · rw [rq_ne (fun g => h g.1)]; exact same19f a b h
/-! ### The document's -/
def I15 (a b : Rq) (j : Nat) : St := ⟨[(2, .ptr 0 0), (3, .ptr 1 0), (5, .d (.int .i64 j))], [(0, rqB a), (1, rqB b)]⟩
def O15 : St := ⟨[(4, .d (.bool false))], []⟩
set_option maxRecDepth 100000 in
set_option maxHeartbeats 1000000 in
theorem r15 (a b : Rq) (hl : a.p.length < 1000000) (j : Nat) (x : Pt) (hx : a.p[j]? = some x) (hy : b.p[j]? = some x) : Runs Try.prog 0 (loopN Try.prog 36 0) (St.as (I15 a b j) 43) (.normal) (St.as (I15 a b (j+1)) 43) := by
  refine round_wp (p := condP (decide ((↑j : Int) < (↑(List.map ptD a.p).length : Int))) (((0 : Int) ≤ (↑j : Int)) ∧ (((List.map ptD a.p)[(↑j : Int).toNat]? = some (D.agg [D.int IntKind.i64 x.a, D.str x.d])) ∧ (((0 : Int) ≤ (↑j : Int)) ∧ (((List.map ptD b.p)[(↑j : Int).toNat]? = some (D.agg [D.int IntKind.i64 x.a, D.str x.d])) ∧ (((D.bool !(x.a == x.a && (x.d == x.d && true))) = D.bool false) ∧ ((AV.ptr (0 : Nat) (0 : Nat) = AV.ptr (0 : Nat) (0 : Nat)) ∧ ((AV.ptr (1 : Nat) (0 : Nat) = AV.ptr (1 : Nat) (0 : Nat)) ∧ ((AV.d (D.int IntKind.i64 (IntKind.i64.wrap ((↑j : Int) + (1 : Int)))) = AV.d (D.int IntKind.i64 (↑(j + (1 : Nat)) : Int))) ∧ ((Ob.box [AV.d (D.int IntKind.i64 a.b), AV.d (D.str a.r), AV.d (D.sl (List.map ptD a.p))] = Ob.box [AV.d (D.int IntKind.i64 a.b), AV.d (D.str a.r), AV.d (D.sl (List.map ptD a.p))]) ∧ ((Ob.box [AV.d (D.int IntKind.i64 b.b), AV.d (D.str b.r), AV.d (D.sl (List.map ptD b.p))] = Ob.box [AV.d (D.int IntKind.i64 b.b), AV.d (D.str b.r), AV.d (D.sl (List.map ptD b.p))]) ∧ (True))))))))))) (False)) (h := {els := [(21, .el (ptD x)), (26, .el (ptD x))], H := [(6, [(10, .val (.bool false))])]}) (subs := []) (ws := []) (ρ := []) (by kernel_rfl) ?_
  have hj := get_lt hx
  have hj2 := get_lt hy
  have hi := inc_i64 (j := j) (by omega)
  simp only [List.length_map, hi]
  refine condP_t (by rw [decide_eq_true_eq]; omega) ?_
  repeat' (first | with_reducible exact True.intro | with_reducible refine And.intro ?_ ?_ | with_reducible refine condP_dec (fun _ => ?_) (fun _ => ?_) | with_reducible refine condP_eq (fun _ => ?_) (fun _ => ?_) | with_reducible refine condP_ne (fun _ => ?_) (fun _ => ?_) | with_reducible refine condP_not (condP_dec (fun _ => ?_) (fun _ => ?_)) | with_reducible refine condP_not (condP_eq (fun _ => ?_) (fun _ => ?_)) | with_reducible refine condP_not (condP_intro (fun _ => ?_) (fun _ => ?_)) | with_reducible refine condP_intro (fun _ => ?_) (fun _ => ?_))
  all_goals first | exact el_map hx rfl | exact el_map hy rfl | rfl | omega | (refine congrArg D.bool ?_; simp; done) | (exfalso; simp_all; done) | (refine congrArg D.bool ?_; rw [ptD_ne hne]; rfl) | (exfalso; have hq := ptD_ne hne; simp_all; done) | skip

set_option maxRecDepth 100000 in
set_option maxHeartbeats 1000000 in
theorem e15 (a b : Rq) (hl : a.p.length < 1000000) (j : Nat) (x y : Pt) (hx : a.p[j]? = some x) (hy : b.p[j]? = some y) (hne : x ≠ y) : Runs Try.prog 0 (loopN Try.prog 36 0) (St.as (I15 a b j) 43) (.ret) (St.as (O15) 43) := by
  refine round_wp (p := condP (decide ((↑j : Int) < (↑(List.map ptD a.p).length : Int))) (((0 : Int) ≤ (↑j : Int)) ∧ (((List.map ptD a.p)[(↑j : Int).toNat]? = some (D.agg [D.int IntKind.i64 x.a, D.str x.d])) ∧ (((0 : Int) ≤ (↑j : Int)) ∧ (((List.map ptD b.p)[(↑j : Int).toNat]? = some (D.agg [D.int IntKind.i64 y.a, D.str y.d])) ∧ (((D.bool !(x.a == y.a && (x.d == y.d && true))) = D.bool true) ∧ ((AV.d (D.bool false) = AV.d (D.bool false)) ∧ (True))))))) (False)) (h := {els := [(21, .el (ptD x)), (26, .el (ptD y))], H := [(6, [(10, .val (.bool true))])]}) (subs := []) (ws := []) (ρ := []) (by kernel_rfl) ?_
  have hj := get_lt hx
  have hj2 := get_lt hy
  have hi := inc_i64 (j := j) (by omega)
  simp only [List.length_map, hi]
  refine condP_t (by rw [decide_eq_true_eq]; omega) ?_
  repeat' (first | with_reducible exact True.intro | with_reducible refine And.intro ?_ ?_ | with_reducible refine condP_dec (fun _ => ?_) (fun _ => ?_) | with_reducible refine condP_eq (fun _ => ?_) (fun _ => ?_) | with_reducible refine condP_ne (fun _ => ?_) (fun _ => ?_) | with_reducible refine condP_not (condP_dec (fun _ => ?_) (fun _ => ?_)) | with_reducible refine condP_not (condP_eq (fun _ => ?_) (fun _ => ?_)) | with_reducible refine condP_not (condP_intro (fun _ => ?_) (fun _ => ?_)) | with_reducible refine condP_intro (fun _ => ?_) (fun _ => ?_))
  all_goals first | exact el_map hx rfl | exact el_map hy rfl | rfl | omega | (refine congrArg D.bool ?_; simp; done) | (exfalso; simp_all; done) | (refine congrArg D.bool ?_; rw [ptD_ne hne]; rfl) | (exfalso; have hq := ptD_ne hne; simp_all; done) | skip

set_option maxRecDepth 100000 in
set_option maxHeartbeats 1000000 in
theorem q15 (a b : Rq) : Runs Try.prog 0 (loopN Try.prog 36 0) (St.as (I15 a b a.p.length) 43) (.exit 0) (St.as (I15 a b a.p.length) 43) := by
  refine round_wp (p := condP (decide ((↑a.p.length : Int) < (↑(List.map ptD a.p).length : Int))) (False) ((AV.ptr (0 : Nat) (0 : Nat) = AV.ptr (0 : Nat) (0 : Nat)) ∧ ((AV.ptr (1 : Nat) (0 : Nat) = AV.ptr (1 : Nat) (0 : Nat)) ∧ ((AV.d (D.int IntKind.i64 (↑a.p.length : Int)) = AV.d (D.int IntKind.i64 (↑a.p.length : Int))) ∧ ((Ob.box [AV.d (D.int IntKind.i64 a.b), AV.d (D.str a.r), AV.d (D.sl (List.map ptD a.p))] = Ob.box [AV.d (D.int IntKind.i64 a.b), AV.d (D.str a.r), AV.d (D.sl (List.map ptD a.p))]) ∧ ((Ob.box [AV.d (D.int IntKind.i64 b.b), AV.d (D.str b.r), AV.d (D.sl (List.map ptD b.p))] = Ob.box [AV.d (D.int IntKind.i64 b.b), AV.d (D.str b.r), AV.d (D.sl (List.map ptD b.p))]) ∧ (True))))))) (h := {}) (subs := []) (ws := []) (ρ := []) (by kernel_rfl) ?_
  repeat' (first | with_reducible exact True.intro | with_reducible refine And.intro ?_ ?_ | with_reducible refine condP_dec (fun _ => ?_) (fun _ => ?_) | with_reducible refine condP_eq (fun _ => ?_) (fun _ => ?_) | with_reducible refine condP_ne (fun _ => ?_) (fun _ => ?_) | with_reducible refine condP_not (condP_dec (fun _ => ?_) (fun _ => ?_)) | with_reducible refine condP_not (condP_eq (fun _ => ?_) (fun _ => ?_)) | with_reducible refine condP_not (condP_intro (fun _ => ?_) (fun _ => ?_)) | with_reducible refine condP_intro (fun _ => ?_) (fun _ => ?_))
  all_goals (try simp only [List.length_map, AV.d.injEq, D.int.injEq, D.bool.injEq, D.str.injEq, D.sl.injEq, true_and, and_true, decide_eq_true_eq, decide_eq_false_iff_not, decide_eq_decide])
  all_goals (try simp only [List.length_map] at *)
  all_goals first | rfl | omega

set_option maxRecDepth 100000 in
set_option maxHeartbeats 1000000 in
theorem same15l (a b : Rq) (h : a.p.length ≠ b.p.length) (hL : True) : FnOK Try.prog 36 ([.d (rqD a), .d (rqD b)]) ([]) (.d (.bool false)) ([]) := by
  refine fnOK_wp (p := (D.bool ((↑(List.map ptD a.p).length : Int) != (↑(List.map ptD b.p).length : Int)) = D.bool true) ∧ ((AV.d (D.bool false) = AV.d (D.bool false)) ∧ (True))) (h := {H := [(1, [(6, .val (.bool true))])]}) (subs := []) (ws := []) (ρ := []) (by kernel_rfl) ?_
  simp only [List.length_map]
  repeat' (first | with_reducible exact True.intro | with_reducible refine And.intro ?_ ?_ | with_reducible refine condP_dec (fun _ => ?_) (fun _ => ?_) | with_reducible refine condP_eq (fun _ => ?_) (fun _ => ?_) | with_reducible refine condP_ne (fun _ => ?_) (fun _ => ?_) | with_reducible refine condP_not (condP_dec (fun _ => ?_) (fun _ => ?_)) | with_reducible refine condP_not (condP_eq (fun _ => ?_) (fun _ => ?_)) | with_reducible refine condP_not (condP_intro (fun _ => ?_) (fun _ => ?_)) | with_reducible refine condP_intro (fun _ => ?_) (fun _ => ?_))
  all_goals first | exact hL | rfl | (rw [← hq]; by_cases hh : a.r = b.r <;> simp [hh]; done) | exact dno (by omega) | exact dyes (by omega) | (refine congrArg D.bool ?_; simp_all; done) | (refine congrArg D.bool ?_; simp; omega) | (exfalso; omega) | skip

set_option maxRecDepth 100000 in
set_option maxHeartbeats 1000000 in
theorem same15n (a b : Rq) (h : a.p.length = b.p.length) (hL : Loops Try.prog 0 (loopN Try.prog 36 0) ((I15 a b 0).as 43) .ret ((O15).as 43)) : FnOK Try.prog 36 ([.d (rqD a), .d (rqD b)]) ([]) (.d (.bool false)) ([]) := by
  refine fnOK_wp (p := (D.bool ((↑(List.map ptD a.p).length : Int) != (↑(List.map ptD b.p).length : Int)) = D.bool false) ∧ ((AV.ptr (1016 : Nat) (0 : Nat) = AV.ptr (1016 : Nat) (0 : Nat)) ∧ ((AV.ptr (1024 : Nat) (0 : Nat) = AV.ptr (1024 : Nat) (0 : Nat)) ∧ ((AV.d (D.int IntKind.i64 (0 : Int)) = AV.d (D.int IntKind.i64 (0 : Int))) ∧ ((Ob.box [AV.d (D.int IntKind.i64 a.b), AV.d (D.str a.r), AV.d (D.sl (List.map ptD a.p))] = Ob.box [AV.d (D.int IntKind.i64 a.b), AV.d (D.str a.r), AV.d (D.sl (List.map ptD a.p))]) ∧ ((Ob.box [AV.d (D.int IntKind.i64 b.b), AV.d (D.str b.r), AV.d (D.sl (List.map ptD b.p))] = Ob.box [AV.d (D.int IntKind.i64 b.b), AV.d (D.str b.r), AV.d (D.sl (List.map ptD b.p))]) ∧ ((LoopsS Try.prog (0 : Nat) (loopN Try.prog (36 : Nat) (0 : Nat)) (I15 a b (0 : Nat)) Exit.ret O15 (43 : Nat)) ∧ ((AV.d (D.bool false) = AV.d (D.bool false)) ∧ (True))))))))) (h := {H := [(1, [(6, .val (.bool false))])]}) (subs := [⟨[], [], I15 a b 0, .ret, O15⟩]) (ws := []) (ρ := []) (by kernel_rfl) ?_
  simp only [List.length_map]
  repeat' (first | with_reducible exact True.intro | with_reducible refine And.intro ?_ ?_ | with_reducible refine condP_dec (fun _ => ?_) (fun _ => ?_) | with_reducible refine condP_eq (fun _ => ?_) (fun _ => ?_) | with_reducible refine condP_ne (fun _ => ?_) (fun _ => ?_) | with_reducible refine condP_not (condP_dec (fun _ => ?_) (fun _ => ?_)) | with_reducible refine condP_not (condP_eq (fun _ => ?_) (fun _ => ?_)) | with_reducible refine condP_not (condP_intro (fun _ => ?_) (fun _ => ?_)) | with_reducible refine condP_intro (fun _ => ?_) (fun _ => ?_))
  all_goals first | exact hL | rfl | (rw [← hq]; by_cases hh : a.r = b.r <;> simp [hh]; done) | exact dno (by omega) | exact dyes (by omega) | (refine congrArg D.bool ?_; simp_all; done) | (refine congrArg D.bool ?_; simp; omega) | (exfalso; omega) | skip

set_option maxRecDepth 100000 in
set_option maxHeartbeats 1000000 in
theorem same15f (a b : Rq) (h : a.p.length = b.p.length) (hL : Loops Try.prog 0 (loopN Try.prog 36 0) ((I15 a b 0).as 43) (.exit 0) ((I15 a b a.p.length).as 43)) (h1 : a.b ≠ b.b) : FnOK Try.prog 36 ([.d (rqD a), .d (rqD b)]) ([]) (.d (.bool false)) ([]) := by
  refine fnOK_wp (p := (D.bool ((↑(List.map ptD a.p).length : Int) != (↑(List.map ptD b.p).length : Int)) = D.bool false) ∧ ((AV.ptr (1016 : Nat) (0 : Nat) = AV.ptr (1016 : Nat) (0 : Nat)) ∧ ((AV.ptr (1024 : Nat) (0 : Nat) = AV.ptr (1024 : Nat) (0 : Nat)) ∧ ((AV.d (D.int IntKind.i64 (0 : Int)) = AV.d (D.int IntKind.i64 (0 : Int))) ∧ ((Ob.box [AV.d (D.int IntKind.i64 a.b), AV.d (D.str a.r), AV.d (D.sl (List.map ptD a.p))] = Ob.box [AV.d (D.int IntKind.i64 a.b), AV.d (D.str a.r), AV.d (D.sl (List.map ptD a.p))]) ∧ ((Ob.box [AV.d (D.int IntKind.i64 b.b), AV.d (D.str b.r), AV.d (D.sl (List.map ptD b.p))] = Ob.box [AV.d (D.int IntKind.i64 b.b), AV.d (D.str b.r), AV.d (D.sl (List.map ptD b.p))]) ∧ ((LoopsS Try.prog (0 : Nat) (loopN Try.prog (36 : Nat) (0 : Nat)) (I15 a b (0 : Nat)) (Exit.exit (0 : Nat)) (I15 a b a.p.length) (43 : Nat)) ∧ ((D.bool (a.b == b.b) = D.bool false) ∧ ((D.bool false = D.bool false) ∧ ((AV.d (D.bool false) = AV.d (D.bool false)) ∧ (True))))))))))) (h := {H := [(1, [(6, .val (.bool false))]), (8, [(4, .val (.bool false))])]}) (subs := [⟨[], [], I15 a b 0, .exit 0, I15 a b a.p.length⟩]) (ws := []) (ρ := []) (by kernel_rfl) ?_
  simp only [List.length_map]
  repeat' (first | with_reducible exact True.intro | with_reducible refine And.intro ?_ ?_ | with_reducible refine condP_dec (fun _ => ?_) (fun _ => ?_) | with_reducible refine condP_eq (fun _ => ?_) (fun _ => ?_) | with_reducible refine condP_ne (fun _ => ?_) (fun _ => ?_) | with_reducible refine condP_not (condP_dec (fun _ => ?_) (fun _ => ?_)) | with_reducible refine condP_not (condP_eq (fun _ => ?_) (fun _ => ?_)) | with_reducible refine condP_not (condP_intro (fun _ => ?_) (fun _ => ?_)) | with_reducible refine condP_intro (fun _ => ?_) (fun _ => ?_))
  all_goals first | exact hL | rfl | (rw [← hq]; by_cases hh : a.r = b.r <;> simp [hh]; done) | exact dno (by omega) | exact dyes (by omega) | (refine congrArg D.bool ?_; simp_all; done) | (refine congrArg D.bool ?_; simp; omega) | (exfalso; omega) | skip

set_option maxRecDepth 100000 in
set_option maxHeartbeats 1000000 in
theorem same15y (a b : Rq) (h : a.p.length = b.p.length) (hL : Loops Try.prog 0 (loopN Try.prog 36 0) ((I15 a b 0).as 43) (.exit 0) ((I15 a b a.p.length).as 43)) (h1 : a.b = b.b) (q : Bool) (hq : decide (a.r = b.r) = q) : FnOK Try.prog 36 ([.d (rqD a), .d (rqD b)]) ([]) (.d (.bool q)) ([]) := by
  refine fnOK_wp (p := (D.bool ((↑(List.map ptD a.p).length : Int) != (↑(List.map ptD b.p).length : Int)) = D.bool false) ∧ ((AV.ptr (1016 : Nat) (0 : Nat) = AV.ptr (1016 : Nat) (0 : Nat)) ∧ ((AV.ptr (1024 : Nat) (0 : Nat) = AV.ptr (1024 : Nat) (0 : Nat)) ∧ ((AV.d (D.int IntKind.i64 (0 : Int)) = AV.d (D.int IntKind.i64 (0 : Int))) ∧ ((Ob.box [AV.d (D.int IntKind.i64 a.b), AV.d (D.str a.r), AV.d (D.sl (List.map ptD a.p))] = Ob.box [AV.d (D.int IntKind.i64 a.b), AV.d (D.str a.r), AV.d (D.sl (List.map ptD a.p))]) ∧ ((Ob.box [AV.d (D.int IntKind.i64 b.b), AV.d (D.str b.r), AV.d (D.sl (List.map ptD b.p))] = Ob.box [AV.d (D.int IntKind.i64 b.b), AV.d (D.str b.r), AV.d (D.sl (List.map ptD b.p))]) ∧ ((LoopsS Try.prog (0 : Nat) (loopN Try.prog (36 : Nat) (0 : Nat)) (I15 a b (0 : Nat)) (Exit.exit (0 : Nat)) (I15 a b a.p.length) (43 : Nat)) ∧ ((D.bool (a.b == b.b) = D.bool true) ∧ ((D.bool true = D.bool true) ∧ ((AV.d (D.bool (a.r == b.r)) = AV.d (D.bool q)) ∧ (True))))))))))) (h := {H := [(1, [(6, .val (.bool false))]), (8, [(4, .val (.bool true))])]}) (subs := [⟨[], [], I15 a b 0, .exit 0, I15 a b a.p.length⟩]) (ws := []) (ρ := []) (by kernel_rfl) ?_
  simp only [List.length_map]
  repeat' (first | with_reducible exact True.intro | with_reducible refine And.intro ?_ ?_ | with_reducible refine condP_dec (fun _ => ?_) (fun _ => ?_) | with_reducible refine condP_eq (fun _ => ?_) (fun _ => ?_) | with_reducible refine condP_ne (fun _ => ?_) (fun _ => ?_) | with_reducible refine condP_not (condP_dec (fun _ => ?_) (fun _ => ?_)) | with_reducible refine condP_not (condP_eq (fun _ => ?_) (fun _ => ?_)) | with_reducible refine condP_not (condP_intro (fun _ => ?_) (fun _ => ?_)) | with_reducible refine condP_intro (fun _ => ?_) (fun _ => ?_))
  all_goals first | exact hL | rfl | (rw [← hq]; by_cases hh : a.r = b.r <;> simp [hh]; done) | exact dno (by omega) | exact dyes (by omega) | (refine congrArg D.bool ?_; simp_all; done) | (refine congrArg D.bool ?_; simp; omega) | (exfalso; omega) | skip

theorem same15 (a b : Rq) (hl : a.p.length < 1000000) : FnOK Try.prog 36 [.d (rqD a), .d (rqD b)] [] (.d (.bool (decide (a = b)))) [] := by
  by_cases h : a.p.length = b.p.length
  · by_cases hc : a.p = b.p
    · have hL : Loops Try.prog 0 (loopN Try.prog 36 0) ((I15 a b 0).as 43) (.exit 0) ((I15 a b a.p.length).as 43) :=
        loops_n (I := fun j => (I15 a b j).as 43) (by simp) a.p.length 0 (by omega) (fun j _ hj => r15 a b hl j _ (get_of hj) (by rw [← hc]; exact get_of hj)) (q15 a b)
      by_cases h1 : a.b = b.b
      · refine same15y a b h hL h1 _ ?_
        by_cases h2 : a.r = b.r
        · rw [rq_eq ⟨h1, h2, hc⟩, decide_eq_true h2]
        · rw [rq_ne (fun g => h2 g.2.1), decide_eq_false h2]
      · rw [rq_ne (fun g => h1 g.1)]; exact same15f a b h hL h1
    · obtain ⟨m, x, y, h1, h2, h3, h4⟩ := (diff_or _ _ h).resolve_left hc
      have hm := get_lt h1
      rw [rq_ne (fun g => hc g.2.2)]
      exact same15n a b h (loops_n (I := fun j => (I15 a b j).as 43) (by simp) m 0 (by omega) (fun j _ hj => r15 a b hl j (a.p[j]'(by omega)) (get_of _) (h4 j _ hj (get_of _))) (e15 a b hl m x y h1 h2 h3))
  · rw [rq_ne (fun g => h (by rw [g.2.2]))]; exact same15l a b h trivial
/-! ### New, over and back -/
set_option maxRecDepth 100000 in
set_option maxHeartbeats 1000000 in
theorem new30  : FnOK Try.prog 39 ([]) ([]) (.d (rqD ⟨0, [], []⟩)) ([]) := by
  refine fnOK_wp (p := (AV.d (D.agg [D.int IntKind.i64 (0 : Int), D.str [], D.sl []]) = AV.d (D.agg [D.int IntKind.i64 (0 : Int), D.str [], D.sl []])) ∧ (True)) (h := {}) (subs := []) (ws := []) (ρ := []) (by kernel_rfl) ?_
  exact ⟨rfl, trivial⟩

def rqZ : Ob := .box [.d (.int .i64 0), .d (.str []), .raw (.slice none 0 0)]
def I10 (x : Rq) (j : Nat) : St := ⟨[(1, .ptr 0 0), (2, .ptr 1 0), (3, .ptr 2 0), (4, .d (.int .i64 j))], [(0, rqB x), (1, rqZ), (2, .box [.d (.int .i64 x.b), .d (.str x.r), .own 3 2]), (3, .row 2 ((x.p.take j).map ptD))]⟩
set_option maxRecDepth 100000 in
set_option maxHeartbeats 1000000 in
theorem r10 (x : Rq) (hl : x.p.length < 1000000) (j : Nat) (y : Pt) (hn : x.p[j]? = some y) : Runs Try.prog 0 (loopN Try.prog 8 0) (St.as (I10 x j) 28) (.normal) (St.as (I10 x (j+1)) 28) := by
  refine round_wp (p := condP (decide ((↑j : Int) < (↑(List.map ptD x.p).length : Int))) (((0 : Int) ≤ (↑j : Int)) ∧ (((List.map ptD x.p)[(↑j : Int).toNat]? = some (D.agg [D.int IntKind.i64 y.a, D.str y.d])) ∧ ((((List.map ptD (List.take j x.p)).length + [D.agg (List.take (2 : Nat) [D.int IntKind.i64 y.a, D.str y.d])].length) * (24 : Nat) ≤ (140737488355328 : Nat)) ∧ ((∀ (e : D), e ∈ chunk (2 : Nat) (1 : Nat) [D.int IntKind.i64 y.a, D.str y.d] → e.cells.length = (2 : Nat)) ∧ ((AV.ptr (0 : Nat) (0 : Nat) = AV.ptr (0 : Nat) (0 : Nat)) ∧ ((AV.ptr (1 : Nat) (0 : Nat) = AV.ptr (1 : Nat) (0 : Nat)) ∧ ((AV.ptr (2 : Nat) (0 : Nat) = AV.ptr (2 : Nat) (0 : Nat)) ∧ ((AV.d (D.int IntKind.i64 (IntKind.i64.wrap ((↑j : Int) + (1 : Int)))) = AV.d (D.int IntKind.i64 (↑(j + (1 : Nat)) : Int))) ∧ ((Ob.box [AV.d (D.int IntKind.i64 x.b), AV.d (D.str x.r), AV.d (D.sl (List.map ptD x.p))] = Ob.box [AV.d (D.int IntKind.i64 x.b), AV.d (D.str x.r), AV.d (D.sl (List.map ptD x.p))]) ∧ ((Ob.box [AV.d (D.int IntKind.i64 (0 : Int)), AV.d (D.str []), AV.raw (Value.slice none (0 : Nat) (0 : Nat))] = Ob.box [AV.d (D.int IntKind.i64 (0 : Int)), AV.d (D.str []), AV.raw (Value.slice none (0 : Nat) (0 : Nat))]) ∧ ((Ob.box [AV.d (D.int IntKind.i64 x.b), AV.d (D.str x.r), AV.own (1200 : Nat) (2 : Nat)] = Ob.box [AV.d (D.int IntKind.i64 x.b), AV.d (D.str x.r), AV.own (1200 : Nat) (2 : Nat)]) ∧ ((Ob.row (2 : Nat) (List.map ptD (List.take j x.p) ++ [D.agg (List.take (2 : Nat) [D.int IntKind.i64 y.a, D.str y.d])]) = Ob.row (2 : Nat) (List.map ptD (List.take (j + (1 : Nat)) x.p))) ∧ (True))))))))))))) (False)) (h := {els := [(20, .el (ptD y))]}) (subs := []) (ws := []) (ρ := []) (by kernel_rfl) ?_
  have hj := get_lt hn
  rw [inc_i64 (by omega), take_map_snoc _ hn]
  refine condP_t (by rw [decide_eq_true_eq, List.length_map]; omega) ?_
  repeat' (first | with_reducible exact True.intro | with_reducible refine And.intro ?_ ?_ | with_reducible refine condP_dec (fun _ => ?_) (fun _ => ?_) | with_reducible refine condP_eq (fun _ => ?_) (fun _ => ?_) | with_reducible refine condP_ne (fun _ => ?_) (fun _ => ?_) | with_reducible refine condP_not (condP_dec (fun _ => ?_) (fun _ => ?_)) | with_reducible refine condP_not (condP_eq (fun _ => ?_) (fun _ => ?_)) | with_reducible refine condP_not (condP_intro (fun _ => ?_) (fun _ => ?_)) | with_reducible refine condP_intro (fun _ => ?_) (fun _ => ?_))
  all_goals first | exact el_map hn rfl | rfl | omega | (simp; omega) | (simp [chunk, ptD, D.cells]; done) | skip

set_option maxRecDepth 100000 in
set_option maxHeartbeats 1000000 in
theorem q10 (x : Rq) : Runs Try.prog 0 (loopN Try.prog 8 0) (St.as (I10 x x.p.length) 28) (.exit 0) (St.as (I10 x x.p.length) 28) := by
  refine round_wp (p := condP (decide ((↑x.p.length : Int) < (↑(List.map ptD x.p).length : Int))) (False) ((AV.ptr (0 : Nat) (0 : Nat) = AV.ptr (0 : Nat) (0 : Nat)) ∧ ((AV.ptr (1 : Nat) (0 : Nat) = AV.ptr (1 : Nat) (0 : Nat)) ∧ ((AV.ptr (2 : Nat) (0 : Nat) = AV.ptr (2 : Nat) (0 : Nat)) ∧ ((AV.d (D.int IntKind.i64 (↑x.p.length : Int)) = AV.d (D.int IntKind.i64 (↑x.p.length : Int))) ∧ ((Ob.box [AV.d (D.int IntKind.i64 x.b), AV.d (D.str x.r), AV.d (D.sl (List.map ptD x.p))] = Ob.box [AV.d (D.int IntKind.i64 x.b), AV.d (D.str x.r), AV.d (D.sl (List.map ptD x.p))]) ∧ ((Ob.box [AV.d (D.int IntKind.i64 (0 : Int)), AV.d (D.str []), AV.raw (Value.slice none (0 : Nat) (0 : Nat))] = Ob.box [AV.d (D.int IntKind.i64 (0 : Int)), AV.d (D.str []), AV.raw (Value.slice none (0 : Nat) (0 : Nat))]) ∧ ((Ob.box [AV.d (D.int IntKind.i64 x.b), AV.d (D.str x.r), AV.own (3 : Nat) (2 : Nat)] = Ob.box [AV.d (D.int IntKind.i64 x.b), AV.d (D.str x.r), AV.own (3 : Nat) (2 : Nat)]) ∧ ((Ob.row (2 : Nat) (List.map ptD (List.take x.p.length x.p)) = Ob.row (2 : Nat) (List.map ptD (List.take x.p.length x.p))) ∧ (True)))))))))) (h := {}) (subs := []) (ws := []) (ρ := []) (by kernel_rfl) ?_
  repeat' (first | with_reducible exact True.intro | with_reducible refine And.intro ?_ ?_ | with_reducible refine condP_dec (fun _ => ?_) (fun _ => ?_) | with_reducible refine condP_eq (fun _ => ?_) (fun _ => ?_) | with_reducible refine condP_ne (fun _ => ?_) (fun _ => ?_) | with_reducible refine condP_not (condP_dec (fun _ => ?_) (fun _ => ?_)) | with_reducible refine condP_not (condP_eq (fun _ => ?_) (fun _ => ?_)) | with_reducible refine condP_not (condP_intro (fun _ => ?_) (fun _ => ?_)) | with_reducible refine condP_intro (fun _ => ?_) (fun _ => ?_))
  all_goals (try simp only [List.length_map, AV.d.injEq, D.int.injEq, D.bool.injEq, D.str.injEq, D.sl.injEq, true_and, and_true, decide_eq_true_eq, decide_eq_false_iff_not, decide_eq_decide])
  all_goals (try simp only [List.length_map] at *)
  all_goals first | rfl | omega

set_option maxRecDepth 100000 in
set_option maxHeartbeats 1000000 in
theorem r16 (x : Rq) (hl : x.p.length < 1000000) (j : Nat) (y : Pt) (hn : x.p[j]? = some y) : Runs Try.prog 0 (loopN Try.prog 37 0) (St.as (I10 x j) 28) (.normal) (St.as (I10 x (j+1)) 28) := by
  refine round_wp (p := condP (decide ((↑j : Int) < (↑(List.map ptD x.p).length : Int))) (((0 : Int) ≤ (↑j : Int)) ∧ (((List.map ptD x.p)[(↑j : Int).toNat]? = some (D.agg [D.int IntKind.i64 y.a, D.str y.d])) ∧ ((((List.map ptD (List.take j x.p)).length + [D.agg (List.take (2 : Nat) [D.int IntKind.i64 y.a, D.str y.d])].length) * (24 : Nat) ≤ (140737488355328 : Nat)) ∧ ((∀ (e : D), e ∈ chunk (2 : Nat) (1 : Nat) [D.int IntKind.i64 y.a, D.str y.d] → e.cells.length = (2 : Nat)) ∧ ((AV.ptr (0 : Nat) (0 : Nat) = AV.ptr (0 : Nat) (0 : Nat)) ∧ ((AV.ptr (1 : Nat) (0 : Nat) = AV.ptr (1 : Nat) (0 : Nat)) ∧ ((AV.ptr (2 : Nat) (0 : Nat) = AV.ptr (2 : Nat) (0 : Nat)) ∧ ((AV.d (D.int IntKind.i64 (IntKind.i64.wrap ((↑j : Int) + (1 : Int)))) = AV.d (D.int IntKind.i64 (↑(j + (1 : Nat)) : Int))) ∧ ((Ob.box [AV.d (D.int IntKind.i64 x.b), AV.d (D.str x.r), AV.d (D.sl (List.map ptD x.p))] = Ob.box [AV.d (D.int IntKind.i64 x.b), AV.d (D.str x.r), AV.d (D.sl (List.map ptD x.p))]) ∧ ((Ob.box [AV.d (D.int IntKind.i64 (0 : Int)), AV.d (D.str []), AV.raw (Value.slice none (0 : Nat) (0 : Nat))] = Ob.box [AV.d (D.int IntKind.i64 (0 : Int)), AV.d (D.str []), AV.raw (Value.slice none (0 : Nat) (0 : Nat))]) ∧ ((Ob.box [AV.d (D.int IntKind.i64 x.b), AV.d (D.str x.r), AV.own (1200 : Nat) (2 : Nat)] = Ob.box [AV.d (D.int IntKind.i64 x.b), AV.d (D.str x.r), AV.own (1200 : Nat) (2 : Nat)]) ∧ ((Ob.row (2 : Nat) (List.map ptD (List.take j x.p) ++ [D.agg (List.take (2 : Nat) [D.int IntKind.i64 y.a, D.str y.d])]) = Ob.row (2 : Nat) (List.map ptD (List.take (j + (1 : Nat)) x.p))) ∧ (True))))))))))))) (False)) (h := {els := [(20, .el (ptD y))]}) (subs := []) (ws := []) (ρ := []) (by kernel_rfl) ?_
  have hj := get_lt hn
  rw [inc_i64 (by omega), take_map_snoc _ hn]
  refine condP_t (by rw [decide_eq_true_eq, List.length_map]; omega) ?_
  repeat' (first | with_reducible exact True.intro | with_reducible refine And.intro ?_ ?_ | with_reducible refine condP_dec (fun _ => ?_) (fun _ => ?_) | with_reducible refine condP_eq (fun _ => ?_) (fun _ => ?_) | with_reducible refine condP_ne (fun _ => ?_) (fun _ => ?_) | with_reducible refine condP_not (condP_dec (fun _ => ?_) (fun _ => ?_)) | with_reducible refine condP_not (condP_eq (fun _ => ?_) (fun _ => ?_)) | with_reducible refine condP_not (condP_intro (fun _ => ?_) (fun _ => ?_)) | with_reducible refine condP_intro (fun _ => ?_) (fun _ => ?_))
  all_goals first | exact el_map hn rfl | rfl | omega | (simp; omega) | (simp [chunk, ptD, D.cells]; done) | skip

set_option maxRecDepth 100000 in
set_option maxHeartbeats 1000000 in
theorem q16 (x : Rq) : Runs Try.prog 0 (loopN Try.prog 37 0) (St.as (I10 x x.p.length) 28) (.exit 0) (St.as (I10 x x.p.length) 28) := by
  refine round_wp (p := condP (decide ((↑x.p.length : Int) < (↑(List.map ptD x.p).length : Int))) (False) ((AV.ptr (0 : Nat) (0 : Nat) = AV.ptr (0 : Nat) (0 : Nat)) ∧ ((AV.ptr (1 : Nat) (0 : Nat) = AV.ptr (1 : Nat) (0 : Nat)) ∧ ((AV.ptr (2 : Nat) (0 : Nat) = AV.ptr (2 : Nat) (0 : Nat)) ∧ ((AV.d (D.int IntKind.i64 (↑x.p.length : Int)) = AV.d (D.int IntKind.i64 (↑x.p.length : Int))) ∧ ((Ob.box [AV.d (D.int IntKind.i64 x.b), AV.d (D.str x.r), AV.d (D.sl (List.map ptD x.p))] = Ob.box [AV.d (D.int IntKind.i64 x.b), AV.d (D.str x.r), AV.d (D.sl (List.map ptD x.p))]) ∧ ((Ob.box [AV.d (D.int IntKind.i64 (0 : Int)), AV.d (D.str []), AV.raw (Value.slice none (0 : Nat) (0 : Nat))] = Ob.box [AV.d (D.int IntKind.i64 (0 : Int)), AV.d (D.str []), AV.raw (Value.slice none (0 : Nat) (0 : Nat))]) ∧ ((Ob.box [AV.d (D.int IntKind.i64 x.b), AV.d (D.str x.r), AV.own (3 : Nat) (2 : Nat)] = Ob.box [AV.d (D.int IntKind.i64 x.b), AV.d (D.str x.r), AV.own (3 : Nat) (2 : Nat)]) ∧ ((Ob.row (2 : Nat) (List.map ptD (List.take x.p.length x.p)) = Ob.row (2 : Nat) (List.map ptD (List.take x.p.length x.p))) ∧ (True)))))))))) (h := {}) (subs := []) (ws := []) (ρ := []) (by kernel_rfl) ?_
  repeat' (first | with_reducible exact True.intro | with_reducible refine And.intro ?_ ?_ | with_reducible refine condP_dec (fun _ => ?_) (fun _ => ?_) | with_reducible refine condP_eq (fun _ => ?_) (fun _ => ?_) | with_reducible refine condP_ne (fun _ => ?_) (fun _ => ?_) | with_reducible refine condP_not (condP_dec (fun _ => ?_) (fun _ => ?_)) | with_reducible refine condP_not (condP_eq (fun _ => ?_) (fun _ => ?_)) | with_reducible refine condP_not (condP_intro (fun _ => ?_) (fun _ => ?_)) | with_reducible refine condP_intro (fun _ => ?_) (fun _ => ?_))
  all_goals (try simp only [List.length_map, AV.d.injEq, D.int.injEq, D.bool.injEq, D.str.injEq, D.sl.injEq, true_and, and_true, decide_eq_true_eq, decide_eq_false_iff_not, decide_eq_decide])
  all_goals (try simp only [List.length_map] at *)
  all_goals first | rfl | omega

set_option maxRecDepth 100000 in
set_option maxHeartbeats 1000000 in
theorem own10 (x : Rq) (hl : x.p.length < 1000000) : FnOK Try.prog 8 ([.d (rqD x)]) ([]) (.d (rqD x)) ([]) := by
  refine fnOK_wp (p := (AV.ptr (1008 : Nat) (0 : Nat) = AV.ptr (1008 : Nat) (0 : Nat)) ∧ ((AV.ptr (1016 : Nat) (0 : Nat) = AV.ptr (1016 : Nat) (0 : Nat)) ∧ ((AV.ptr (1024 : Nat) (0 : Nat) = AV.ptr (1024 : Nat) (0 : Nat)) ∧ ((AV.d (D.int IntKind.i64 (0 : Int)) = AV.d (D.int IntKind.i64 (0 : Int))) ∧ ((Ob.box [AV.d (D.int IntKind.i64 x.b), AV.d (D.str x.r), AV.d (D.sl (List.map ptD x.p))] = Ob.box [AV.d (D.int IntKind.i64 x.b), AV.d (D.str x.r), AV.d (D.sl (List.map ptD x.p))]) ∧ ((Ob.box [AV.d (D.int IntKind.i64 (0 : Int)), AV.d (D.str []), AV.raw (Value.slice none (0 : Nat) (0 : Nat))] = Ob.box [AV.d (D.int IntKind.i64 (0 : Int)), AV.d (D.str []), AV.raw (Value.slice none (0 : Nat) (0 : Nat))]) ∧ ((Ob.box [AV.d (D.int IntKind.i64 x.b), AV.d (D.str x.r), AV.own (500 : Nat) (2 : Nat)] = Ob.box [AV.d (D.int IntKind.i64 x.b), AV.d (D.str x.r), AV.own (500 : Nat) (2 : Nat)]) ∧ ((Ob.row (2 : Nat) [] = Ob.row (2 : Nat) []) ∧ ((LoopsS Try.prog (0 : Nat) (loopN Try.prog (8 : Nat) (0 : Nat)) (I10 x (0 : Nat)) (Exit.exit (0 : Nat)) (I10 x x.p.length) (28 : Nat)) ∧ ((AV.d (D.agg [D.int IntKind.i64 x.b, D.str x.r, D.sl (List.map ptD (List.take x.p.length x.p))]) = AV.d (D.agg [D.int IntKind.i64 x.b, D.str x.r, D.sl (List.map ptD x.p)])) ∧ (True))))))))))) (h := {W := [(2, [.nilcell 1024 2 500 2])]}) (subs := [⟨[], [], I10 x 0, .exit 0, I10 x x.p.length⟩]) (ws := []) (ρ := []) (by kernel_rfl) ?_
  have h := loops_n (P := Try.prog) (k := 0) (c := loopN Try.prog 8 0) (e := .exit 0) (I := fun j => (I10 x j).as 28) (by simp) x.p.length 0 (by omega) (fun j _ hj => r10 x hl j x.p[j] (get_of hj)) (q10 x)
  repeat' (first | with_reducible exact True.intro | with_reducible refine And.intro ?_ ?_ | with_reducible refine condP_dec (fun _ => ?_) (fun _ => ?_) | with_reducible refine condP_eq (fun _ => ?_) (fun _ => ?_) | with_reducible refine condP_ne (fun _ => ?_) (fun _ => ?_) | with_reducible refine condP_not (condP_dec (fun _ => ?_) (fun _ => ?_)) | with_reducible refine condP_not (condP_eq (fun _ => ?_) (fun _ => ?_)) | with_reducible refine condP_not (condP_intro (fun _ => ?_) (fun _ => ?_)) | with_reducible refine condP_intro (fun _ => ?_) (fun _ => ?_))
  all_goals first | exact h | rfl | (rw [List.take_length]) | (rw [List.take_length]; rfl) | skip

set_option maxRecDepth 100000 in
set_option maxHeartbeats 1000000 in
theorem back16 (x : Rq) (hl : x.p.length < 1000000) : FnOK Try.prog 37 ([.d (rqD x)]) ([]) (.d (rqD x)) ([]) := by
  refine fnOK_wp (p := (AV.ptr (1008 : Nat) (0 : Nat) = AV.ptr (1008 : Nat) (0 : Nat)) ∧ ((AV.ptr (1016 : Nat) (0 : Nat) = AV.ptr (1016 : Nat) (0 : Nat)) ∧ ((AV.ptr (1024 : Nat) (0 : Nat) = AV.ptr (1024 : Nat) (0 : Nat)) ∧ ((AV.d (D.int IntKind.i64 (0 : Int)) = AV.d (D.int IntKind.i64 (0 : Int))) ∧ ((Ob.box [AV.d (D.int IntKind.i64 x.b), AV.d (D.str x.r), AV.d (D.sl (List.map ptD x.p))] = Ob.box [AV.d (D.int IntKind.i64 x.b), AV.d (D.str x.r), AV.d (D.sl (List.map ptD x.p))]) ∧ ((Ob.box [AV.d (D.int IntKind.i64 (0 : Int)), AV.d (D.str []), AV.raw (Value.slice none (0 : Nat) (0 : Nat))] = Ob.box [AV.d (D.int IntKind.i64 (0 : Int)), AV.d (D.str []), AV.raw (Value.slice none (0 : Nat) (0 : Nat))]) ∧ ((Ob.box [AV.d (D.int IntKind.i64 x.b), AV.d (D.str x.r), AV.own (500 : Nat) (2 : Nat)] = Ob.box [AV.d (D.int IntKind.i64 x.b), AV.d (D.str x.r), AV.own (500 : Nat) (2 : Nat)]) ∧ ((Ob.row (2 : Nat) [] = Ob.row (2 : Nat) []) ∧ ((LoopsS Try.prog (0 : Nat) (loopN Try.prog (37 : Nat) (0 : Nat)) (I10 x (0 : Nat)) (Exit.exit (0 : Nat)) (I10 x x.p.length) (28 : Nat)) ∧ ((AV.d (D.agg [D.int IntKind.i64 x.b, D.str x.r, D.sl (List.map ptD (List.take x.p.length x.p))]) = AV.d (D.agg [D.int IntKind.i64 x.b, D.str x.r, D.sl (List.map ptD x.p)])) ∧ (True))))))))))) (h := {W := [(2, [.nilcell 1024 2 500 2])]}) (subs := [⟨[], [], I10 x 0, .exit 0, I10 x x.p.length⟩]) (ws := []) (ρ := []) (by kernel_rfl) ?_
  have h := loops_n (P := Try.prog) (k := 0) (c := loopN Try.prog 37 0) (e := .exit 0) (I := fun j => (I10 x j).as 28) (by simp) x.p.length 0 (by omega) (fun j _ hj => r16 x hl j x.p[j] (get_of hj)) (q16 x)
  repeat' (first | with_reducible exact True.intro | with_reducible refine And.intro ?_ ?_ | with_reducible refine condP_dec (fun _ => ?_) (fun _ => ?_) | with_reducible refine condP_eq (fun _ => ?_) (fun _ => ?_) | with_reducible refine condP_ne (fun _ => ?_) (fun _ => ?_) | with_reducible refine condP_not (condP_dec (fun _ => ?_) (fun _ => ?_)) | with_reducible refine condP_not (condP_eq (fun _ => ?_) (fun _ => ?_)) | with_reducible refine condP_not (condP_intro (fun _ => ?_) (fun _ => ?_)) | with_reducible refine condP_intro (fun _ => ?_) (fun _ => ?_))
  all_goals first | exact h | rfl | (rw [List.take_length]) | (rw [List.take_length]; rfl) | skip

/-! ### Read -/
def rRead (s : Rq) (n : Int) : Rq × List UInt8 := if rChk s ≠ 0 ∨ n < 1 then (s, []) else (⟨s.b, s.r.drop n.toNat, s.p⟩, s.r.take n.toNat)
theorem read_len {s : List UInt8} {n : Int} : s.drop (min n (s.length : Int)).toNat = s.drop n.toNat ∧ s.take (min n (s.length : Int)).toNat = s.take n.toNat := by
  by_cases h : n ≤ s.length
  · rw [Int.min_eq_left h]; exact ⟨rfl, rfl⟩
  · have e : (min n (s.length : Int)).toNat = s.length := by omega
    rw [e, List.take_length, List.drop_length, List.take_of_length_le (by omega), List.drop_eq_nil_of_le (by omega)]
    exact ⟨rfl, rfl⟩
set_option maxRecDepth 100000 in
set_option maxHeartbeats 1000000 in
theorem read13n (s : Rq) (hb : Rb s) (hl : s.p.length < 1000000) (n e : Int) (he : rChk s = e) (h : e ≠ 0 ∨ n < 1) : FnOK Try.prog 30 ([.d (rqD s), .d (.int .i64 n)]) ([]) (.tup [.d (rqD s), .d (.str [])]) ([]) := by
  refine fnOK_wp (p := (FnOK Try.prog (40 : Nat) [AV.d (D.sl (List.map ptD s.p))] [] (AV.own (0 : Nat) (2 : Nat)) [Ob.row (2 : Nat) (List.map ptD s.p)]) ∧ (condP (decide (n < (1 : Int))) ((D.bool (decide (n < (1 : Int))) = D.bool true) ∧ ((AV.tup [AV.d (D.agg [D.int IntKind.i64 s.b, D.str s.r, D.sl (List.map ptD s.p)]), AV.d (D.str [])] = AV.tup [AV.d (D.agg [D.int IntKind.i64 s.b, D.str s.r, D.sl (List.map ptD s.p)]), AV.d (D.str [])]) ∧ (True))) ((D.bool (decide (n < (1 : Int))) = D.bool false) ∧ ((FnOK Try.prog (32 : Nat) [AV.d (D.agg [D.int IntKind.i64 s.b, D.str s.r, D.sl (List.map ptD s.p)])] [] (AV.d (D.int IntKind.i64 e)) []) ∧ (condP (e != (0 : Int)) ((AV.tup [AV.d (D.agg [D.int IntKind.i64 s.b, D.str s.r, D.sl (List.map ptD s.p)]), AV.d (D.str [])] = AV.tup [AV.d (D.agg [D.int IntKind.i64 s.b, D.str s.r, D.sl (List.map ptD s.p)]), AV.d (D.str [])]) ∧ (True)) (((0 : Int) ≤ (0 : Int) ∧ (0 : Int) ≤ min n (↑s.r.length : Int) ∧ min n (↑s.r.length : Int) ≤ (↑s.r.length : Int)) ∧ (((0 : Int) ≤ min n (↑s.r.length : Int) ∧ min n (↑s.r.length : Int) ≤ (↑s.r.length : Int) ∧ (↑s.r.length : Int) ≤ (↑s.r.length : Int)) ∧ ((AV.tup [AV.d (D.agg [D.int IntKind.i64 s.b, D.str (List.drop (min n (↑s.r.length : Int)).toNat (List.take (↑s.r.length : Int).toNat s.r)), D.sl (List.map ptD s.p)]), AV.d (D.str (List.drop (0 : Nat) (List.take (min n (↑s.r.length : Int)).toNat s.r)))] = AV.tup [AV.d (D.agg [D.int IntKind.i64 s.b, D.str s.r, D.sl (List.map ptD s.p)]), AV.d (D.str [])]) ∧ (True))))))))) (h := {H := [(1, [(2, .call [] (.own 0 2) [.row 2 (s.p.map ptD)])])], G := [(32, gAns (.d (.int .i64 e)))]}) (subs := []) (ws := []) (ρ := []) (by kernel_rfl) ?_
  have k1 := chk17 s hb
  rw [he] at k1
  have k2 := ptD_clone s.p (by omega)
  repeat' (first | with_reducible exact True.intro | with_reducible refine And.intro ?_ ?_ | with_reducible refine condP_dec (fun _ => ?_) (fun _ => ?_) | with_reducible refine condP_eq (fun _ => ?_) (fun _ => ?_) | with_reducible refine condP_ne (fun _ => ?_) (fun _ => ?_) | with_reducible refine condP_not (condP_dec (fun _ => ?_) (fun _ => ?_)) | with_reducible refine condP_not (condP_eq (fun _ => ?_) (fun _ => ?_)) | with_reducible refine condP_not (condP_intro (fun _ => ?_) (fun _ => ?_)) | with_reducible refine condP_intro (fun _ => ?_) (fun _ => ?_))
  all_goals first | exact k1 | exact k2 | rfl | exact dyes ‹_› | exact dno ‹_› | (refine congrArg D.bool ?_; assumption) | (refine congrArg D.bool ?_; simp; assumption) | (exfalso; simp_all; omega) | (exfalso; simp_all; done) | skip

set_option maxRecDepth 100000 in
set_option maxHeartbeats 1000000 in
theorem read13y (s : Rq) (hb : Rb s) (hl : s.p.length < 1000000) (n : Int) (he : rChk s = 0) (h : 1 ≤ n) : FnOK Try.prog 30 ([.d (rqD s), .d (.int .i64 n)]) ([]) (.tup [.d (rqD ⟨s.b, s.r.drop n.toNat, s.p⟩), .d (.str (s.r.take n.toNat))]) ([]) := by
  refine fnOK_wp (p := (FnOK Try.prog (40 : Nat) [AV.d (D.sl (List.map ptD s.p))] [] (AV.own (0 : Nat) (2 : Nat)) [Ob.row (2 : Nat) (List.map ptD s.p)]) ∧ ((D.bool (decide (n < (1 : Int))) = D.bool false) ∧ ((D.bool false = D.bool false) ∧ ((FnOK Try.prog (32 : Nat) [AV.d (D.agg [D.int IntKind.i64 s.b, D.str s.r, D.sl (List.map ptD s.p)])] [] (AV.d (D.int IntKind.i64 (0 : Int))) []) ∧ (((0 : Int) ≤ (0 : Int) ∧ (0 : Int) ≤ min n (↑s.r.length : Int) ∧ min n (↑s.r.length : Int) ≤ (↑s.r.length : Int)) ∧ (((0 : Int) ≤ min n (↑s.r.length : Int) ∧ min n (↑s.r.length : Int) ≤ (↑s.r.length : Int) ∧ (↑s.r.length : Int) ≤ (↑s.r.length : Int)) ∧ ((AV.tup [AV.d (D.agg [D.int IntKind.i64 s.b, D.str (List.drop (min n (↑s.r.length : Int)).toNat (List.take (↑s.r.length : Int).toNat s.r)), D.sl (List.map ptD s.p)]), AV.d (D.str (List.drop (0 : Nat) (List.take (min n (↑s.r.length : Int)).toNat s.r)))] = AV.tup [AV.d (D.agg [D.int IntKind.i64 (Rq.mk s.b (List.drop n.toNat s.r) s.p).b, D.str (Rq.mk s.b (List.drop n.toNat s.r) s.p).r, D.sl (List.map ptD (Rq.mk s.b (List.drop n.toNat s.r) s.p).p)]), AV.d (D.str (List.take n.toNat s.r))]) ∧ (True)))))))) (h := {H := [(1, [(2, .call [] (.own 0 2) [.row 2 (s.p.map ptD)])]), (2, [(1, .val (.bool false))])], G := [(32, gAns (.d (.int .i64 0)))]}) (subs := []) (ws := []) (ρ := []) (by kernel_rfl) ?_
  have k1 := chk17 s hb
  rw [he] at k1
  have k2 := ptD_clone s.p (by omega)
  have t1 : List.take ((s.r.length : Int)).toNat s.r = s.r := List.take_length
  simp only [t1, (read_len (s := s.r) (n := n)).1, (read_len (s := s.r) (n := n)).2, List.drop_zero]
  repeat' (first | with_reducible exact True.intro | with_reducible refine And.intro ?_ ?_ | with_reducible refine condP_dec (fun _ => ?_) (fun _ => ?_) | with_reducible refine condP_eq (fun _ => ?_) (fun _ => ?_) | with_reducible refine condP_ne (fun _ => ?_) (fun _ => ?_) | with_reducible refine condP_not (condP_dec (fun _ => ?_) (fun _ => ?_)) | with_reducible refine condP_not (condP_eq (fun _ => ?_) (fun _ => ?_)) | with_reducible refine condP_not (condP_intro (fun _ => ?_) (fun _ => ?_)) | with_reducible refine condP_intro (fun _ => ?_) (fun _ => ?_))
  all_goals first | exact k1 | exact k2 | rfl | exact dno (by omega) | omega | skip

set_option maxRecDepth 100000 in
set_option maxHeartbeats 1000000 in
theorem read14n (s : Rq) (hb : Rb s) (n e : Int) (he : rChk s = e) (h : e ≠ 0 ∨ n < 1) : FnOK Try.prog 31 ([.d (rqD s), .d (.int .i64 n)]) ([]) (.tup [.d (rqD s), .d (.str [])]) ([]) := by
  refine fnOK_wp (p := condP (e != (0 : Int)) ((FnOK Try.prog (33 : Nat) [AV.d (D.agg [D.int IntKind.i64 s.b, D.str s.r, D.sl (List.map ptD s.p)])] [] (AV.d (D.int IntKind.i64 e)) []) ∧ ((D.bool (e != (0 : Int)) = D.bool true) ∧ ((AV.tup [AV.d (D.agg [D.int IntKind.i64 s.b, D.str s.r, D.sl (List.map ptD s.p)]), AV.d (D.str [])] = AV.tup [AV.d (D.agg [D.int IntKind.i64 s.b, D.str s.r, D.sl (List.map ptD s.p)]), AV.d (D.str [])]) ∧ (True)))) ((FnOK Try.prog (33 : Nat) [AV.d (D.agg [D.int IntKind.i64 s.b, D.str s.r, D.sl (List.map ptD s.p)])] [] (AV.d (D.int IntKind.i64 e)) []) ∧ ((D.bool (e != (0 : Int)) = D.bool false) ∧ (condP (decide (n < (1 : Int))) ((AV.tup [AV.d (D.agg [D.int IntKind.i64 s.b, D.str s.r, D.sl (List.map ptD s.p)]), AV.d (D.str [])] = AV.tup [AV.d (D.agg [D.int IntKind.i64 s.b, D.str s.r, D.sl (List.map ptD s.p)]), AV.d (D.str [])]) ∧ (True)) (((0 : Int) ≤ (0 : Int) ∧ (0 : Int) ≤ min n (↑s.r.length : Int) ∧ min n (↑s.r.length : Int) ≤ (↑s.r.length : Int)) ∧ (((0 : Int) ≤ min n (↑s.r.length : Int) ∧ min n (↑s.r.length : Int) ≤ (↑s.r.length : Int) ∧ (↑s.r.length : Int) ≤ (↑s.r.length : Int)) ∧ ((AV.tup [AV.d (D.agg [D.int IntKind.i64 s.b, D.str (List.drop (min n (↑s.r.length : Int)).toNat (List.take (↑s.r.length : Int).toNat s.r)), D.sl (List.map ptD s.p)]), AV.d (D.str (List.drop (0 : Nat) (List.take (min n (↑s.r.length : Int)).toNat s.r)))] = AV.tup [AV.d (D.agg [D.int IntKind.i64 s.b, D.str s.r, D.sl (List.map ptD s.p)]), AV.d (D.str [])]) ∧ (True)))))))) (h := {G := [(33, gAns (.d (.int .i64 e)))]}) (subs := []) (ws := []) (ρ := []) (by kernel_rfl) ?_
  have k1 := chk18 s hb
  rw [he] at k1
  repeat' (first | with_reducible exact True.intro | with_reducible refine And.intro ?_ ?_ | with_reducible refine condP_dec (fun _ => ?_) (fun _ => ?_) | with_reducible refine condP_eq (fun _ => ?_) (fun _ => ?_) | with_reducible refine condP_ne (fun _ => ?_) (fun _ => ?_) | with_reducible refine condP_not (condP_dec (fun _ => ?_) (fun _ => ?_)) | with_reducible refine condP_not (condP_eq (fun _ => ?_) (fun _ => ?_)) | with_reducible refine condP_not (condP_intro (fun _ => ?_) (fun _ => ?_)) | with_reducible refine condP_intro (fun _ => ?_) (fun _ => ?_))
  all_goals first | exact k1 | rfl | exact dyes ‹_› | exact dno ‹_› | (refine congrArg D.bool ?_; assumption) | (refine congrArg D.bool ?_; simp; assumption) | (exfalso; simp_all; omega) | (exfalso; simp_all; done) | skip

set_option maxRecDepth 100000 in
set_option maxHeartbeats 1000000 in
theorem read14y (s : Rq) (hb : Rb s) (n : Int) (he : rChk s = 0) (h : 1 ≤ n) : FnOK Try.prog 31 ([.d (rqD s), .d (.int .i64 n)]) ([]) (.tup [.d (rqD ⟨s.b, s.r.drop n.toNat, s.p⟩), .d (.str (s.r.take n.toNat))]) ([]) := by
  refine fnOK_wp (p := (FnOK Try.prog (33 : Nat) [AV.d (D.agg [D.int IntKind.i64 s.b, D.str s.r, D.sl (List.map ptD s.p)])] [] (AV.d (D.int IntKind.i64 (0 : Int))) []) ∧ ((D.bool false = D.bool false) ∧ ((D.bool (decide (n < (1 : Int))) = D.bool false) ∧ (((0 : Int) ≤ (0 : Int) ∧ (0 : Int) ≤ min n (↑s.r.length : Int) ∧ min n (↑s.r.length : Int) ≤ (↑s.r.length : Int)) ∧ (((0 : Int) ≤ min n (↑s.r.length : Int) ∧ min n (↑s.r.length : Int) ≤ (↑s.r.length : Int) ∧ (↑s.r.length : Int) ≤ (↑s.r.length : Int)) ∧ ((AV.tup [AV.d (D.agg [D.int IntKind.i64 s.b, D.str (List.drop (min n (↑s.r.length : Int)).toNat (List.take (↑s.r.length : Int).toNat s.r)), D.sl (List.map ptD s.p)]), AV.d (D.str (List.drop (0 : Nat) (List.take (min n (↑s.r.length : Int)).toNat s.r)))] = AV.tup [AV.d (D.agg [D.int IntKind.i64 (Rq.mk s.b (List.drop n.toNat s.r) s.p).b, D.str (Rq.mk s.b (List.drop n.toNat s.r) s.p).r, D.sl (List.map ptD (Rq.mk s.b (List.drop n.toNat s.r) s.p).p)]), AV.d (D.str (List.take n.toNat s.r))]) ∧ (True))))))) (h := {H := [(1, [(5, .val (.bool false))])], G := [(33, gAns (.d (.int .i64 0)))]}) (subs := []) (ws := []) (ρ := []) (by kernel_rfl) ?_
  have k1 := chk18 s hb
  rw [he] at k1
  have t1 : List.take ((s.r.length : Int)).toNat s.r = s.r := List.take_length
  simp only [t1, (read_len (s := s.r) (n := n)).1, (read_len (s := s.r) (n := n)).2, List.drop_zero]
  repeat' (first | with_reducible exact True.intro | with_reducible refine And.intro ?_ ?_ | with_reducible refine condP_dec (fun _ => ?_) (fun _ => ?_) | with_reducible refine condP_eq (fun _ => ?_) (fun _ => ?_) | with_reducible refine condP_ne (fun _ => ?_) (fun _ => ?_) | with_reducible refine condP_not (condP_dec (fun _ => ?_) (fun _ => ?_)) | with_reducible refine condP_not (condP_eq (fun _ => ?_) (fun _ => ?_)) | with_reducible refine condP_not (condP_intro (fun _ => ?_) (fun _ => ?_)) | with_reducible refine condP_intro (fun _ => ?_) (fun _ => ?_))
  all_goals first | exact k1 | rfl | exact dno (by omega) | omega | skip

theorem read13 (s : Rq) (hb : Rb s) (hl : s.p.length < 1000000) (n : Int) : FnOK Try.prog 30 [.d (rqD s), .d (.int .i64 n)] [] (.tup [.d (rqD (rRead s n).1), .d (.str (rRead s n).2)]) [] := by
  unfold rRead
  by_cases h : rChk s ≠ 0 ∨ n < 1
  · rw [if_pos h]; exact read13n s hb hl n _ rfl h
  · rw [if_neg h]; exact read13y s hb hl n (by omega) (by omega)
theorem read14 (s : Rq) (hb : Rb s) (n : Int) : FnOK Try.prog 31 [.d (rqD s), .d (.int .i64 n)] [] (.tup [.d (rqD (rRead s n).1), .d (.str (rRead s n).2)]) [] := by
  unfold rRead
  by_cases h : rChk s ≠ 0 ∨ n < 1
  · rw [if_pos h]; exact read14n s hb n _ rfl h
  · rw [if_neg h]; exact read14y s hb n (by omega) (by omega)
end Go.Proofs.Ytfacpafkldmkcaa.C12
