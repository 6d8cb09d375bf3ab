/-
laws 18: whether two are one; cells over and back; cells that are new.
-/
import Derived.Test.YtgdifegembfjoaaS6
set_option linter.unusedSimpArgs false
set_option linter.unusedVariables false
namespace Go.Proofs.Ytgdifegembfjoaa
open Sx Go.RowKit

theorem ar_ne {a b : Ar} (h : ¬(a.f = b.f ∧ a.u = b.u ∧ a.l = b.l)) : decide (a = b) = false := decide_eq_false fun e => h (by rw [e]; exact ⟨rfl, rfl, rfl⟩)
theorem ar_eq {a b : Ar} (h : a.f = b.f ∧ a.u = b.u ∧ a.l = b.l) : decide (a = b) = true := decide_eq_true (by
  obtain ⟨l, f, u⟩ := a
  obtain ⟨l', f', u'⟩ := b
  obtain ⟨rfl, rfl, rfl⟩ := h
  rfl)
set_option maxRecDepth 100000 in
set_option maxHeartbeats 1000000 in
theorem same26f (a b : Ar) (h : a.f ≠ b.f) : FnOK Try.prog 26 ([.d (arD a), .d (arD b)]) ([]) (.d (.bool false)) ([]) := by
  refine fnOK_wp (p := (D.bool (a.f == b.f) = D.bool false) ∧ ((D.bool false = D.bool false) ∧ ((D.bool false = D.bool false) ∧ ((AV.d (D.bool false) = AV.d (D.bool false)) ∧ (True))))) (h := {H := [(1, [(4, .val (.bool false))])]}) (subs := []) (ws := []) (ρ := []) (by kernel_rfl) ?_
  repeat' (first | with_reducible exact True.intro | with_reducible refine And.intro ?_ ?_ | with_reducible refine condP_dec (fun _ => ?_) (fun _ => ?_) | with_reducible refine condP_eq (fun _ => ?_) (fun _ => ?_) | with_reducible refine condP_ne (fun _ => ?_) (fun _ => ?_) | with_reducible refine condP_not (condP_dec (fun _ => ?_) (fun _ => ?_)) | with_reducible refine condP_not (condP_eq (fun _ => ?_) (fun _ => ?_)) | with_reducible refine condP_not (condP_intro (fun _ => ?_) (fun _ => ?_)) | with_reducible refine condP_intro (fun _ => ?_) (fun _ => ?_))
  all_goals first | exact k | rfl | (refine congrArg D.bool ?_; simp_all; done) | skip

set_option maxRecDepth 100000 in
set_option maxHeartbeats 1000000 in
theorem same26u (a b : Ar) (h : a.f = b.f) (h2 : a.u ≠ b.u) : FnOK Try.prog 26 ([.d (arD a), .d (arD b)]) ([]) (.d (.bool false)) ([]) := by
  refine fnOK_wp (p := (D.bool (a.f == b.f) = D.bool true) ∧ ((D.bool true = D.bool true) ∧ ((D.bool (a.u == b.u) = D.bool false) ∧ ((D.bool false = D.bool false) ∧ ((AV.d (D.bool false) = AV.d (D.bool false)) ∧ (True)))))) (h := {H := [(1, [(4, .val (.bool true)), (10, .val (.bool false))])]}) (subs := []) (ws := []) (ρ := []) (by kernel_rfl) ?_
  repeat' (first | with_reducible exact True.intro | with_reducible refine And.intro ?_ ?_ | with_reducible refine condP_dec (fun _ => ?_) (fun _ => ?_) | with_reducible refine condP_eq (fun _ => ?_) (fun _ => ?_) | with_reducible refine condP_ne (fun _ => ?_) (fun _ => ?_) | with_reducible refine condP_not (condP_dec (fun _ => ?_) (fun _ => ?_)) | with_reducible refine condP_not (condP_eq (fun _ => ?_) (fun _ => ?_)) | with_reducible refine condP_not (condP_intro (fun _ => ?_) (fun _ => ?_)) | with_reducible refine condP_intro (fun _ => ?_) (fun _ => ?_))
  all_goals first | exact k | rfl | (refine congrArg D.bool ?_; simp_all; done) | skip

set_option maxRecDepth 100000 in
set_option maxHeartbeats 1000000 in
theorem same26y (a b : Ar) (h : a.f = b.f) (h2 : a.u = b.u) (q : Bool) (k : FnOK Try.prog 41 [.d (.sl (a.l.map ceD)), .d (.sl (b.l.map ceD))] [] (.d (.bool q)) []) : FnOK Try.prog 26 ([.d (arD a), .d (arD b)]) ([]) (.d (.bool q)) ([]) := by
  refine fnOK_wp (p := (D.bool (a.f == b.f) = D.bool true) ∧ ((D.bool true = D.bool true) ∧ ((D.bool (a.u == b.u) = D.bool true) ∧ ((D.bool true = D.bool true) ∧ ((FnOK Try.prog (41 : Nat) [AV.d (D.sl (List.map ceD a.l)), AV.d (D.sl (List.map ceD b.l))] [] (AV.d (D.bool q)) []) ∧ ((AV.d (D.bool q) = AV.d (D.bool q)) ∧ (True))))))) (h := {H := [(1, [(4, .val (.bool true)), (10, .val (.bool true)), (17, .call [] (.d (.bool q)) [])])]}) (subs := []) (ws := []) (ρ := []) (by kernel_rfl) ?_
  repeat' (first | with_reducible exact True.intro | with_reducible refine And.intro ?_ ?_ | with_reducible refine condP_dec (fun _ => ?_) (fun _ => ?_) | with_reducible refine condP_eq (fun _ => ?_) (fun _ => ?_) | with_reducible refine condP_ne (fun _ => ?_) (fun _ => ?_) | with_reducible refine condP_not (condP_dec (fun _ => ?_) (fun _ => ?_)) | with_reducible refine condP_not (condP_eq (fun _ => ?_) (fun _ => ?_)) | with_reducible refine condP_not (condP_intro (fun _ => ?_) (fun _ => ?_)) | with_reducible refine condP_intro (fun _ => ?_) (fun _ => ?_))
  all_goals first | exact k | rfl | (refine congrArg D.bool ?_; simp_all; done) | skip

theorem same26 (a b : Ar) (hl : a.l.length < 1000000) : FnOK Try.prog 26 [.d (arD a), .d (arD b)] [] (.d (.bool (decide (a = b)))) [] := by
  by_cases h : a.f = b.f
  · by_cases h2 : a.u = b.u
    · have e : decide (a = b) = decide (a.l = b.l) := by
        by_cases h3 : a.l = b.l
        · rw [ar_eq ⟨h, h2, h3⟩, decide_eq_true h3]
        · rw [ar_ne (fun g => h3 g.2.2), decide_eq_false h3]
      rw [e]
      exact same26y a b h h2 _ (ceD_equal a.l b.l (by omega))
    · rw [ar_ne (fun g => h2 g.2.1)]; exact same26u a b h h2
  · rw [ar_ne (fun g => h g.1)]; exact same26f a b h
/-! ### The document's -/
def I15 (a b : Ar) (j : Nat) : St := ⟨[(2, .ptr 0 0), (3, .ptr 1 0), (5, .d (.int .i64 j))], [(0, arB a), (1, arB b)]⟩
def O15 : St := ⟨[(4, .d (.bool false))], []⟩
set_option maxRecDepth 100000 in
set_option maxHeartbeats 1000000 in
theorem r15 (a b : Ar) (hl : a.l.length < 1000000) (j : Nat) (x : Ce) (hx : a.l[j]? = some x) (hy : b.l[j]? = some x) : Runs Try.prog 0 (loopN Try.prog 15 0) (St.as (I15 a b j) 43) (.normal) (St.as (I15 a b (j+1)) 43) := by
  refine round_wp (p := condP (decide ((↑j : Int) < (↑(List.map ceD a.l).length : Int))) (((0 : Int) ≤ (↑j : Int)) ∧ (((List.map ceD a.l)[(↑j : Int).toNat]? = some (D.agg [D.bool x.v, D.int IntKind.i64 x.x, D.int IntKind.i64 x.l])) ∧ (((0 : Int) ≤ (↑j : Int)) ∧ (((List.map ceD b.l)[(↑j : Int).toNat]? = some (D.agg [D.bool x.v, D.int IntKind.i64 x.x, D.int IntKind.i64 x.l])) ∧ (((D.bool !(x.v == x.v && (x.x == x.x && (x.l == x.l && true)))) = D.bool false) ∧ ((AV.ptr (0 : Nat) (0 : Nat) = AV.ptr (0 : Nat) (0 : Nat)) ∧ ((AV.ptr (1 : Nat) (0 : Nat) = AV.ptr (1 : Nat) (0 : Nat)) ∧ ((AV.d (D.int IntKind.i64 (IntKind.i64.wrap ((↑j : Int) + (1 : Int)))) = AV.d (D.int IntKind.i64 (↑(j + (1 : Nat)) : Int))) ∧ ((Ob.box [AV.d (D.sl (List.map ceD a.l)), AV.d (D.int IntKind.i64 a.f), AV.d (D.int IntKind.i64 a.u)] = Ob.box [AV.d (D.sl (List.map ceD a.l)), AV.d (D.int IntKind.i64 a.f), AV.d (D.int IntKind.i64 a.u)]) ∧ ((Ob.box [AV.d (D.sl (List.map ceD b.l)), AV.d (D.int IntKind.i64 b.f), AV.d (D.int IntKind.i64 b.u)] = Ob.box [AV.d (D.sl (List.map ceD b.l)), AV.d (D.int IntKind.i64 b.f), AV.d (D.int IntKind.i64 b.u)]) ∧ (True))))))))))) (False)) (h := {els := [(21, .el (ceD x)), (26, .el (ceD x))], H := [(6, [(10, .val (.bool false))])]}) (subs := []) (ws := []) (ρ := []) (by kernel_rfl) ?_
  have hj := get_lt hx
  have hj2 := get_lt hy
  have hi := inc_i64 (j := j) (by omega)
  simp only [List.length_map, hi]
  refine condP_t (by rw [decide_eq_true_eq]; omega) ?_
  repeat' (first | with_reducible exact True.intro | with_reducible refine And.intro ?_ ?_ | with_reducible refine condP_dec (fun _ => ?_) (fun _ => ?_) | with_reducible refine condP_eq (fun _ => ?_) (fun _ => ?_) | with_reducible refine condP_ne (fun _ => ?_) (fun _ => ?_) | with_reducible refine condP_not (condP_dec (fun _ => ?_) (fun _ => ?_)) | with_reducible refine condP_not (condP_eq (fun _ => ?_) (fun _ => ?_)) | with_reducible refine condP_not (condP_intro (fun _ => ?_) (fun _ => ?_)) | with_reducible refine condP_intro (fun _ => ?_) (fun _ => ?_))
  all_goals first | exact el_map hx rfl | exact el_map hy rfl | rfl | omega | (refine congrArg D.bool ?_; simp; done) | (exfalso; simp_all; done) | (refine congrArg D.bool ?_; rw [ceD_ne hne]; rfl) | (exfalso; have hq := ceD_ne hne; simp_all; done) | skip

set_option maxRecDepth 100000 in
set_option maxHeartbeats 1000000 in
theorem e15 (a b : Ar) (hl : a.l.length < 1000000) (j : Nat) (x y : Ce) (hx : a.l[j]? = some x) (hy : b.l[j]? = some y) (hne : x ≠ y) : Runs Try.prog 0 (loopN Try.prog 15 0) (St.as (I15 a b j) 43) (.ret) (St.as (O15) 43) := by
  refine round_wp (p := condP (decide ((↑j : Int) < (↑(List.map ceD a.l).length : Int))) (((0 : Int) ≤ (↑j : Int)) ∧ (((List.map ceD a.l)[(↑j : Int).toNat]? = some (D.agg [D.bool x.v, D.int IntKind.i64 x.x, D.int IntKind.i64 x.l])) ∧ (((0 : Int) ≤ (↑j : Int)) ∧ (((List.map ceD b.l)[(↑j : Int).toNat]? = some (D.agg [D.bool y.v, D.int IntKind.i64 y.x, D.int IntKind.i64 y.l])) ∧ (((D.bool !(x.v == y.v && (x.x == y.x && (x.l == y.l && true)))) = D.bool true) ∧ ((AV.d (D.bool false) = AV.d (D.bool false)) ∧ (True))))))) (False)) (h := {els := [(21, .el (ceD x)), (26, .el (ceD y))], H := [(6, [(10, .val (.bool true))])]}) (subs := []) (ws := []) (ρ := []) (by kernel_rfl) ?_
  have hj := get_lt hx
  have hj2 := get_lt hy
  have hi := inc_i64 (j := j) (by omega)
  simp only [List.length_map, hi]
  refine condP_t (by rw [decide_eq_true_eq]; omega) ?_
  repeat' (first | with_reducible exact True.intro | with_reducible refine And.intro ?_ ?_ | with_reducible refine condP_dec (fun _ => ?_) (fun _ => ?_) | with_reducible refine condP_eq (fun _ => ?_) (fun _ => ?_) | with_reducible refine condP_ne (fun _ => ?_) (fun _ => ?_) | with_reducible refine condP_not (condP_dec (fun _ => ?_) (fun _ => ?_)) | with_reducible refine condP_not (condP_eq (fun _ => ?_) (fun _ => ?_)) | with_reducible refine condP_not (condP_intro (fun _ => ?_) (fun _ => ?_)) | with_reducible refine condP_intro (fun _ => ?_) (fun _ => ?_))
  all_goals first | exact el_map hx rfl | exact el_map hy rfl | rfl | omega | (refine congrArg D.bool ?_; simp; done) | (exfalso; simp_all; done) | (refine congrArg D.bool ?_; rw [ceD_ne hne]; rfl) | (exfalso; have hq := ceD_ne hne; simp_all; done) | skip

set_option maxRecDepth 100000 in
set_option maxHeartbeats 1000000 in
theorem q15 (a b : Ar) : Runs Try.prog 0 (loopN Try.prog 15 0) (St.as (I15 a b a.l.length) 43) (.exit 0) (St.as (I15 a b a.l.length) 43) := by
  refine round_wp (p := condP (decide ((↑a.l.length : Int) < (↑(List.map ceD a.l).length : Int))) (False) ((AV.ptr (0 : Nat) (0 : Nat) = AV.ptr (0 : Nat) (0 : Nat)) ∧ ((AV.ptr (1 : Nat) (0 : Nat) = AV.ptr (1 : Nat) (0 : Nat)) ∧ ((AV.d (D.int IntKind.i64 (↑a.l.length : Int)) = AV.d (D.int IntKind.i64 (↑a.l.length : Int))) ∧ ((Ob.box [AV.d (D.sl (List.map ceD a.l)), AV.d (D.int IntKind.i64 a.f), AV.d (D.int IntKind.i64 a.u)] = Ob.box [AV.d (D.sl (List.map ceD a.l)), AV.d (D.int IntKind.i64 a.f), AV.d (D.int IntKind.i64 a.u)]) ∧ ((Ob.box [AV.d (D.sl (List.map ceD b.l)), AV.d (D.int IntKind.i64 b.f), AV.d (D.int IntKind.i64 b.u)] = Ob.box [AV.d (D.sl (List.map ceD b.l)), AV.d (D.int IntKind.i64 b.f), AV.d (D.int IntKind.i64 b.u)]) ∧ (True))))))) (h := {}) (subs := []) (ws := []) (ρ := []) (by kernel_rfl) ?_
  repeat' (first | with_reducible exact True.intro | with_reducible refine And.intro ?_ ?_ | with_reducible refine condP_dec (fun _ => ?_) (fun _ => ?_) | with_reducible refine condP_eq (fun _ => ?_) (fun _ => ?_) | with_reducible refine condP_ne (fun _ => ?_) (fun _ => ?_) | with_reducible refine condP_not (condP_dec (fun _ => ?_) (fun _ => ?_)) | with_reducible refine condP_not (condP_eq (fun _ => ?_) (fun _ => ?_)) | with_reducible refine condP_not (condP_intro (fun _ => ?_) (fun _ => ?_)) | with_reducible refine condP_intro (fun _ => ?_) (fun _ => ?_))
  all_goals (try simp only [List.length_map, AV.d.injEq, D.int.injEq, D.bool.injEq, D.str.injEq, D.sl.injEq, true_and, and_true, decide_eq_true_eq, decide_eq_false_iff_not, decide_eq_decide])
  all_goals (try simp only [List.length_map] at *)
  all_goals first | rfl | omega

set_option maxRecDepth 100000 in
set_option maxHeartbeats 1000000 in
theorem same15l (a b : Ar) (h : a.l.length ≠ b.l.length) (hL : True) : FnOK Try.prog 15 ([.d (arD a), .d (arD b)]) ([]) (.d (.bool false)) ([]) := by
  refine fnOK_wp (p := (D.bool ((↑(List.map ceD a.l).length : Int) != (↑(List.map ceD b.l).length : Int)) = D.bool true) ∧ ((AV.d (D.bool false) = AV.d (D.bool false)) ∧ (True))) (h := {H := [(1, [(6, .val (.bool true))])]}) (subs := []) (ws := []) (ρ := []) (by kernel_rfl) ?_
  simp only [List.length_map]
  repeat' (first | with_reducible exact True.intro | with_reducible refine And.intro ?_ ?_ | with_reducible refine condP_dec (fun _ => ?_) (fun _ => ?_) | with_reducible refine condP_eq (fun _ => ?_) (fun _ => ?_) | with_reducible refine condP_ne (fun _ => ?_) (fun _ => ?_) | with_reducible refine condP_not (condP_dec (fun _ => ?_) (fun _ => ?_)) | with_reducible refine condP_not (condP_eq (fun _ => ?_) (fun _ => ?_)) | with_reducible refine condP_not (condP_intro (fun _ => ?_) (fun _ => ?_)) | with_reducible refine condP_intro (fun _ => ?_) (fun _ => ?_))
  all_goals first | exact hL | rfl | (rw [← hq]; simp; done) | (rw [← hq]; rfl) | exact dno (by omega) | exact dyes (by omega) | (refine congrArg D.bool ?_; simp_all; done) | (refine congrArg D.bool ?_; simp; omega) | (exfalso; omega) | skip

set_option maxRecDepth 100000 in
set_option maxHeartbeats 1000000 in
theorem same15n (a b : Ar) (h : a.l.length = b.l.length) (hL : Loops Try.prog 0 (loopN Try.prog 15 0) ((I15 a b 0).as 43) .ret ((O15).as 43)) : FnOK Try.prog 15 ([.d (arD a), .d (arD b)]) ([]) (.d (.bool false)) ([]) := by
  refine fnOK_wp (p := (D.bool ((↑(List.map ceD a.l).length : Int) != (↑(List.map ceD b.l).length : Int)) = D.bool false) ∧ ((AV.ptr (1016 : Nat) (0 : Nat) = AV.ptr (1016 : Nat) (0 : Nat)) ∧ ((AV.ptr (1024 : Nat) (0 : Nat) = AV.ptr (1024 : Nat) (0 : Nat)) ∧ ((AV.d (D.int IntKind.i64 (0 : Int)) = AV.d (D.int IntKind.i64 (0 : Int))) ∧ ((Ob.box [AV.d (D.sl (List.map ceD a.l)), AV.d (D.int IntKind.i64 a.f), AV.d (D.int IntKind.i64 a.u)] = Ob.box [AV.d (D.sl (List.map ceD a.l)), AV.d (D.int IntKind.i64 a.f), AV.d (D.int IntKind.i64 a.u)]) ∧ ((Ob.box [AV.d (D.sl (List.map ceD b.l)), AV.d (D.int IntKind.i64 b.f), AV.d (D.int IntKind.i64 b.u)] = Ob.box [AV.d (D.sl (List.map ceD b.l)), AV.d (D.int IntKind.i64 b.f), AV.d (D.int IntKind.i64 b.u)]) ∧ ((LoopsS Try.prog (0 : Nat) (loopN Try.prog (15 : Nat) (0 : Nat)) (I15 a b (0 : Nat)) Exit.ret O15 (43 : Nat)) ∧ ((AV.d (D.bool false) = AV.d (D.bool false)) ∧ (True))))))))) (h := {H := [(1, [(6, .val (.bool false))])]}) (subs := [⟨[], [], I15 a b 0, .ret, O15⟩]) (ws := []) (ρ := []) (by kernel_rfl) ?_
  simp only [List.length_map]
  repeat' (first | with_reducible exact True.intro | with_reducible refine And.intro ?_ ?_ | with_reducible refine condP_dec (fun _ => ?_) (fun _ => ?_) | with_reducible refine condP_eq (fun _ => ?_) (fun _ => ?_) | with_reducible refine condP_ne (fun _ => ?_) (fun _ => ?_) | with_reducible refine condP_not (condP_dec (fun _ => ?_) (fun _ => ?_)) | with_reducible refine condP_not (condP_eq (fun _ => ?_) (fun _ => ?_)) | with_reducible refine condP_not (condP_intro (fun _ => ?_) (fun _ => ?_)) | with_reducible refine condP_intro (fun _ => ?_) (fun _ => ?_))
  all_goals first | exact hL | rfl | (rw [← hq]; simp; done) | (rw [← hq]; rfl) | exact dno (by omega) | exact dyes (by omega) | (refine congrArg D.bool ?_; simp_all; done) | (refine congrArg D.bool ?_; simp; omega) | (exfalso; omega) | skip

set_option maxRecDepth 100000 in
set_option maxHeartbeats 1000000 in
theorem same15f (a b : Ar) (h : a.l.length = b.l.length) (hL : Loops Try.prog 0 (loopN Try.prog 15 0) ((I15 a b 0).as 43) (.exit 0) ((I15 a b a.l.length).as 43)) (h1 : a.f ≠ b.f) : FnOK Try.prog 15 ([.d (arD a), .d (arD b)]) ([]) (.d (.bool false)) ([]) := by
  refine fnOK_wp (p := (D.bool ((↑(List.map ceD a.l).length : Int) != (↑(List.map ceD b.l).length : Int)) = D.bool false) ∧ ((AV.ptr (1016 : Nat) (0 : Nat) = AV.ptr (1016 : Nat) (0 : Nat)) ∧ ((AV.ptr (1024 : Nat) (0 : Nat) = AV.ptr (1024 : Nat) (0 : Nat)) ∧ ((AV.d (D.int IntKind.i64 (0 : Int)) = AV.d (D.int IntKind.i64 (0 : Int))) ∧ ((Ob.box [AV.d (D.sl (List.map ceD a.l)), AV.d (D.int IntKind.i64 a.f), AV.d (D.int IntKind.i64 a.u)] = Ob.box [AV.d (D.sl (List.map ceD a.l)), AV.d (D.int IntKind.i64 a.f), AV.d (D.int IntKind.i64 a.u)]) ∧ ((Ob.box [AV.d (D.sl (List.map ceD b.l)), AV.d (D.int IntKind.i64 b.f), AV.d (D.int IntKind.i64 b.u)] = Ob.box [AV.d (D.sl (List.map ceD b.l)), AV.d (D.int IntKind.i64 b.f), AV.d (D.int IntKind.i64 b.u)]) ∧ ((LoopsS Try.prog (0 : Nat) (loopN Try.prog (15 : Nat) (0 : Nat)) (I15 a b (0 : Nat)) (Exit.exit (0 : Nat)) (I15 a b a.l.length) (43 : Nat)) ∧ ((D.bool (a.f == b.f) = D.bool false) ∧ ((D.bool false = D.bool false) ∧ ((AV.d (D.bool false) = AV.d (D.bool false)) ∧ (True))))))))))) (h := {H := [(1, [(6, .val (.bool false))]), (8, [(4, .val (.bool false))])]}) (subs := [⟨[], [], I15 a b 0, .exit 0, I15 a b a.l.length⟩]) (ws := []) (ρ := []) (by kernel_rfl) ?_
  simp only [List.length_map]
  repeat' (first | with_reducible exact True.intro | with_reducible refine And.intro ?_ ?_ | with_reducible refine condP_dec (fun _ => ?_) (fun _ => ?_) | with_reducible refine condP_eq (fun _ => ?_) (fun _ => ?_) | with_reducible refine condP_ne (fun _ => ?_) (fun _ => ?_) | with_reducible refine condP_not (condP_dec (fun _ => ?_) (fun _ => ?_)) | with_reducible refine condP_not (condP_eq (fun _ => ?_) (fun _ => ?_)) | with_reducible refine condP_not (condP_intro (fun _ => ?_) (fun _ => ?_)) | with_reducible refine condP_intro (fun _ => ?_) (fun _ => ?_))
  all_goals first | exact hL | rfl | (rw [← hq]; simp; done) | (rw [← hq]; rfl) | exact dno (by omega) | exact dyes (by omega) | (refine congrArg D.bool ?_; simp_all; done) | (refine congrArg D.bool ?_; simp; omega) | (exfalso; omega) | skip

set_option maxRecDepth 100000 in
set_option maxHeartbeats 1000000 in
theorem same15y (a b : Ar) (h : a.l.length = b.l.length) (hL : Loops Try.prog 0 (loopN Try.prog 15 0) ((I15 a b 0).as 43) (.exit 0) ((I15 a b a.l.length).as 43)) (h1 : a.f = b.f) (q : Bool) (hq : decide (a.u = b.u) = q) : FnOK Try.prog 15 ([.d (arD a), .d (arD b)]) ([]) (.d (.bool q)) ([]) := by
  refine fnOK_wp (p := (D.bool ((↑(List.map ceD a.l).length : Int) != (↑(List.map ceD b.l).length : Int)) = D.bool false) ∧ ((AV.ptr (1016 : Nat) (0 : Nat) = AV.ptr (1016 : Nat) (0 : Nat)) ∧ ((AV.ptr (1024 : Nat) (0 : Nat) = AV.ptr (1024 : Nat) (0 : Nat)) ∧ ((AV.d (D.int IntKind.i64 (0 : Int)) = AV.d (D.int IntKind.i64 (0 : Int))) ∧ ((Ob.box [AV.d (D.sl (List.map ceD a.l)), AV.d (D.int IntKind.i64 a.f), AV.d (D.int IntKind.i64 a.u)] = Ob.box [AV.d (D.sl (List.map ceD a.l)), AV.d (D.int IntKind.i64 a.f), AV.d (D.int IntKind.i64 a.u)]) ∧ ((Ob.box [AV.d (D.sl (List.map ceD b.l)), AV.d (D.int IntKind.i64 b.f), AV.d (D.int IntKind.i64 b.u)] = Ob.box [AV.d (D.sl (List.map ceD b.l)), AV.d (D.int IntKind.i64 b.f), AV.d (D.int IntKind.i64 b.u)]) ∧ ((LoopsS Try.prog (0 : Nat) (loopN Try.prog (15 : Nat) (0 : Nat)) (I15 a b (0 : Nat)) (Exit.exit (0 : Nat)) (I15 a b a.l.length) (43 : Nat)) ∧ ((D.bool (a.f == b.f) = D.bool true) ∧ ((D.bool true = D.bool true) ∧ ((AV.d (D.bool (a.u == b.u)) = AV.d (D.bool q)) ∧ (True))))))))))) (h := {H := [(1, [(6, .val (.bool false))]), (8, [(4, .val (.bool true))])]}) (subs := [⟨[], [], I15 a b 0, .exit 0, I15 a b a.l.length⟩]) (ws := []) (ρ := []) (by kernel_rfl) ?_
  simp only [List.length_map]
  repeat' (first | with_reducible exact True.intro | with_reducible refine And.intro ?_ ?_ | with_reducible refine condP_dec (fun _ => ?_) (fun _ => ?_) | with_reducible refine condP_eq (fun _ => ?_) (fun _ => ?_) | with_reducible refine condP_ne (fun _ => ?_) (fun _ => ?_) | with_reducible refine condP_not (condP_dec (fun _ => ?_) (fun _ => ?_)) | with_reducible refine condP_not (condP_eq (fun _ => ?_) (fun _ => ?_)) | with_reducible refine condP_not (condP_intro (fun _ => ?_) (fun _ => ?_)) | with_reducible refine condP_intro (fun _ => ?_) (fun _ => ?_))
  all_goals first | exact hL | rfl | (rw [← hq]; simp; done) | (rw [← hq]; rfl) | exact dno (by omega) | exact dyes (by omega) | (refine congrArg D.bool ?_; simp_all; done) | (refine congrArg D.bool ?_; simp; omega) | (exfalso; omega) | skip

theorem same15 (a b : Ar) (hl : a.l.length < 1000000) : FnOK Try.prog 15 [.d (arD a), .d (arD b)] [] (.d (.bool (decide (a = b)))) [] := by
  by_cases h : a.l.length = b.l.length
  · by_cases hc : a.l = b.l
    · have hL : Loops Try.prog 0 (loopN Try.prog 15 0) ((I15 a b 0).as 43) (.exit 0) ((I15 a b a.l.length).as 43) :=
        loops_n (I := fun j => (I15 a b j).as 43) (by simp) a.l.length 0 (by omega) (fun j _ hj => r15 a b hl j _ (get_of hj) (by rw [← hc]; exact get_of hj)) (q15 a b)
      by_cases h1 : a.f = b.f
      · refine same15y a b h hL h1 _ ?_
        by_cases h2 : a.u = b.u
        · rw [ar_eq ⟨h1, h2, hc⟩, decide_eq_true h2]
        · rw [ar_ne (fun g => h2 g.2.1), decide_eq_false h2]
      · rw [ar_ne (fun g => h1 g.1)]; exact same15f a b h hL h1
    · obtain ⟨m, x, y, h1, h2, h3, h4⟩ := (diff_or _ _ h).resolve_left hc
      have hm := get_lt h1
      rw [ar_ne (fun g => hc g.2.2)]
      exact same15n a b h (loops_n (I := fun j => (I15 a b j).as 43) (by simp) m 0 (by omega) (fun j _ hj => r15 a b hl j (a.l[j]'(by omega)) (get_of _) (h4 j _ hj (get_of _))) (e15 a b hl m x y h1 h2 h3))
  · rw [ar_ne (fun g => h (by rw [g.2.2]))]; exact same15l a b h trivial
/-! ### New -/
set_option maxRecDepth 100000 in
set_option maxHeartbeats 1000000 in
theorem new27  : FnOK Try.prog 27 ([]) ([]) (.d (arD ⟨[], -1, 0⟩)) ([]) := by
  refine fnOK_wp (p := (AV.d (D.agg [D.sl [], D.int IntKind.i64 (-1 : Int), D.int IntKind.i64 (0 : Int)]) = AV.d (D.agg [D.sl [], D.int IntKind.i64 (-1 : Int), D.int IntKind.i64 (0 : Int)])) ∧ (True)) (h := {}) (subs := []) (ws := []) (ρ := []) (by kernel_rfl) ?_
  exact ⟨rfl, trivial⟩

set_option maxRecDepth 100000 in
set_option maxHeartbeats 1000000 in
theorem new28  : FnOK Try.prog 28 ([]) ([]) (.d (arD ⟨[], -1, 0⟩)) ([]) := by
  refine fnOK_wp (p := (AV.d (D.agg [D.sl [], D.int IntKind.i64 (-1 : Int), D.int IntKind.i64 (0 : Int)]) = AV.d (D.agg [D.sl [], D.int IntKind.i64 (-1 : Int), D.int IntKind.i64 (0 : Int)])) ∧ (True)) (h := {}) (subs := []) (ws := []) (ρ := []) (by kernel_rfl) ?_
  exact ⟨rfl, trivial⟩

/-! ### Handing over -/
def arZ : Ob := .box [.raw (.slice none 0 0), .d (.int .i64 0), .d (.int .i64 0)]
def I8 (x : Ar) (j : Nat) : St := ⟨[(1, .ptr 0 0), (2, .ptr 1 0), (3, .ptr 2 0), (4, .d (.int .i64 j))], [(0, arB x), (1, arZ), (2, .box [.own 3 3, .d (.int .i64 x.f), .d (.int .i64 x.u)]), (3, .row 3 ((x.l.take j).map ceD))]⟩
set_option maxRecDepth 100000 in
set_option maxHeartbeats 1000000 in
theorem r8 (x : Ar) (hl : x.l.length < 1000000) (j : Nat) (y : Ce) (hn : x.l[j]? = some y) : Runs Try.prog 0 (loopN Try.prog 8 0) (St.as (I8 x j) 28) (.normal) (St.as (I8 x (j+1)) 28) := by
  refine round_wp (p := condP (decide ((↑j : Int) < (↑(List.map ceD x.l).length : Int))) (((0 : Int) ≤ (↑j : Int)) ∧ (((List.map ceD x.l)[(↑j : Int).toNat]? = some (D.agg [D.bool y.v, D.int IntKind.i64 y.x, D.int IntKind.i64 y.l])) ∧ ((((List.map ceD (List.take j x.l)).length + [D.agg (List.take (3 : Nat) [D.bool y.v, D.int IntKind.i64 y.x, D.int IntKind.i64 y.l])].length) * (24 : Nat) ≤ (140737488355328 : Nat)) ∧ ((∀ (e : D), e ∈ chunk (3 : Nat) (1 : Nat) [D.bool y.v, D.int IntKind.i64 y.x, D.int IntKind.i64 y.l] → e.cells.length = (3 : Nat)) ∧ ((AV.ptr (0 : Nat) (0 : Nat) = AV.ptr (0 : Nat) (0 : Nat)) ∧ ((AV.ptr (1 : Nat) (0 : Nat) = AV.ptr (1 : Nat) (0 : Nat)) ∧ ((AV.ptr (2 : Nat) (0 : Nat) = AV.ptr (2 : Nat) (0 : Nat)) ∧ ((AV.d (D.int IntKind.i64 (IntKind.i64.wrap ((↑j : Int) + (1 : Int)))) = AV.d (D.int IntKind.i64 (↑(j + (1 : Nat)) : Int))) ∧ ((Ob.box [AV.d (D.sl (List.map ceD x.l)), AV.d (D.int IntKind.i64 x.f), AV.d (D.int IntKind.i64 x.u)] = Ob.box [AV.d (D.sl (List.map ceD x.l)), AV.d (D.int IntKind.i64 x.f), AV.d (D.int IntKind.i64 x.u)]) ∧ ((Ob.box [AV.raw (Value.slice none (0 : Nat) (0 : Nat)), AV.d (D.int IntKind.i64 (0 : Int)), AV.d (D.int IntKind.i64 (0 : Int))] = Ob.box [AV.raw (Value.slice none (0 : Nat) (0 : Nat)), AV.d (D.int IntKind.i64 (0 : Int)), AV.d (D.int IntKind.i64 (0 : Int))]) ∧ ((Ob.box [AV.own (1200 : Nat) (3 : Nat), AV.d (D.int IntKind.i64 x.f), AV.d (D.int IntKind.i64 x.u)] = Ob.box [AV.own (1200 : Nat) (3 : Nat), AV.d (D.int IntKind.i64 x.f), AV.d (D.int IntKind.i64 x.u)]) ∧ ((Ob.row (3 : Nat) (List.map ceD (List.take j x.l) ++ [D.agg (List.take (3 : Nat) [D.bool y.v, D.int IntKind.i64 y.x, D.int IntKind.i64 y.l])]) = Ob.row (3 : Nat) (List.map ceD (List.take (j + (1 : Nat)) x.l))) ∧ (True))))))))))))) (False)) (h := {els := [(20, .el (ceD y))]}) (subs := []) (ws := []) (ρ := []) (by kernel_rfl) ?_
  have hj := get_lt hn
  rw [inc_i64 (by omega), take_map_snoc _ hn]
  refine condP_t (by rw [decide_eq_true_eq, List.length_map]; omega) ?_
  repeat' (first | with_reducible exact True.intro | with_reducible refine And.intro ?_ ?_ | with_reducible refine condP_dec (fun _ => ?_) (fun _ => ?_) | with_reducible refine condP_eq (fun _ => ?_) (fun _ => ?_) | with_reducible refine condP_ne (fun _ => ?_) (fun _ => ?_) | with_reducible refine condP_not (condP_dec (fun _ => ?_) (fun _ => ?_)) | with_reducible refine condP_not (condP_eq (fun _ => ?_) (fun _ => ?_)) | with_reducible refine condP_not (condP_intro (fun _ => ?_) (fun _ => ?_)) | with_reducible refine condP_intro (fun _ => ?_) (fun _ => ?_))
  all_goals first | exact el_map hn rfl | rfl | omega | (simp; omega) | (simp [chunk, ceD, D.cells]; done) | skip

set_option maxRecDepth 100000 in
set_option maxHeartbeats 1000000 in
theorem q8 (x : Ar) : Runs Try.prog 0 (loopN Try.prog 8 0) (St.as (I8 x x.l.length) 28) (.exit 0) (St.as (I8 x x.l.length) 28) := by
  refine round_wp (p := condP (decide ((↑x.l.length : Int) < (↑(List.map ceD x.l).length : Int))) (False) ((AV.ptr (0 : Nat) (0 : Nat) = AV.ptr (0 : Nat) (0 : Nat)) ∧ ((AV.ptr (1 : Nat) (0 : Nat) = AV.ptr (1 : Nat) (0 : Nat)) ∧ ((AV.ptr (2 : Nat) (0 : Nat) = AV.ptr (2 : Nat) (0 : Nat)) ∧ ((AV.d (D.int IntKind.i64 (↑x.l.length : Int)) = AV.d (D.int IntKind.i64 (↑x.l.length : Int))) ∧ ((Ob.box [AV.d (D.sl (List.map ceD x.l)), AV.d (D.int IntKind.i64 x.f), AV.d (D.int IntKind.i64 x.u)] = Ob.box [AV.d (D.sl (List.map ceD x.l)), AV.d (D.int IntKind.i64 x.f), AV.d (D.int IntKind.i64 x.u)]) ∧ ((Ob.box [AV.raw (Value.slice none (0 : Nat) (0 : Nat)), AV.d (D.int IntKind.i64 (0 : Int)), AV.d (D.int IntKind.i64 (0 : Int))] = Ob.box [AV.raw (Value.slice none (0 : Nat) (0 : Nat)), AV.d (D.int IntKind.i64 (0 : Int)), AV.d (D.int IntKind.i64 (0 : Int))]) ∧ ((Ob.box [AV.own (3 : Nat) (3 : Nat), AV.d (D.int IntKind.i64 x.f), AV.d (D.int IntKind.i64 x.u)] = Ob.box [AV.own (3 : Nat) (3 : Nat), AV.d (D.int IntKind.i64 x.f), AV.d (D.int IntKind.i64 x.u)]) ∧ ((Ob.row (3 : Nat) (List.map ceD (List.take x.l.length x.l)) = Ob.row (3 : Nat) (List.map ceD (List.take x.l.length x.l))) ∧ (True)))))))))) (h := {}) (subs := []) (ws := []) (ρ := []) (by kernel_rfl) ?_
  repeat' (first | with_reducible exact True.intro | with_reducible refine And.intro ?_ ?_ | with_reducible refine condP_dec (fun _ => ?_) (fun _ => ?_) | with_reducible refine condP_eq (fun _ => ?_) (fun _ => ?_) | with_reducible refine condP_ne (fun _ => ?_) (fun _ => ?_) | with_reducible refine condP_not (condP_dec (fun _ => ?_) (fun _ => ?_)) | with_reducible refine condP_not (condP_eq (fun _ => ?_) (fun _ => ?_)) | with_reducible refine condP_not (condP_intro (fun _ => ?_) (fun _ => ?_)) | with_reducible refine condP_intro (fun _ => ?_) (fun _ => ?_))
  all_goals (try simp only [List.length_map, AV.d.injEq, D.int.injEq, D.bool.injEq, D.str.injEq, D.sl.injEq, true_and, and_true, decide_eq_true_eq, decide_eq_false_iff_not, decide_eq_decide])
  all_goals (try simp only [List.length_map] at *)
  all_goals first | rfl | omega

set_option maxRecDepth 100000 in
set_option maxHeartbeats 1000000 in
theorem r16 (x : Ar) (hl : x.l.length < 1000000) (j : Nat) (y : Ce) (hn : x.l[j]? = some y) : Runs Try.prog 0 (loopN Try.prog 16 0) (St.as (I8 x j) 28) (.normal) (St.as (I8 x (j+1)) 28) := by
  refine round_wp (p := condP (decide ((↑j : Int) < (↑(List.map ceD x.l).length : Int))) (((0 : Int) ≤ (↑j : Int)) ∧ (((List.map ceD x.l)[(↑j : Int).toNat]? = some (D.agg [D.bool y.v, D.int IntKind.i64 y.x, D.int IntKind.i64 y.l])) ∧ ((((List.map ceD (List.take j x.l)).length + [D.agg (List.take (3 : Nat) [D.bool y.v, D.int IntKind.i64 y.x, D.int IntKind.i64 y.l])].length) * (24 : Nat) ≤ (140737488355328 : Nat)) ∧ ((∀ (e : D), e ∈ chunk (3 : Nat) (1 : Nat) [D.bool y.v, D.int IntKind.i64 y.x, D.int IntKind.i64 y.l] → e.cells.length = (3 : Nat)) ∧ ((AV.ptr (0 : Nat) (0 : Nat) = AV.ptr (0 : Nat) (0 : Nat)) ∧ ((AV.ptr (1 : Nat) (0 : Nat) = AV.ptr (1 : Nat) (0 : Nat)) ∧ ((AV.ptr (2 : Nat) (0 : Nat) = AV.ptr (2 : Nat) (0 : Nat)) ∧ ((AV.d (D.int IntKind.i64 (IntKind.i64.wrap ((↑j : Int) + (1 : Int)))) = AV.d (D.int IntKind.i64 (↑(j + (1 : Nat)) : Int))) ∧ ((Ob.box [AV.d (D.sl (List.map ceD x.l)), AV.d (D.int IntKind.i64 x.f), AV.d (D.int IntKind.i64 x.u)] = Ob.box [AV.d (D.sl (List.map ceD x.l)), AV.d (D.int IntKind.i64 x.f), AV.d (D.int IntKind.i64 x.u)]) ∧ ((Ob.box [AV.raw (Value.slice none (0 : Nat) (0 : Nat)), AV.d (D.int IntKind.i64 (0 : Int)), AV.d (D.int IntKind.i64 (0 : Int))] = Ob.box [AV.raw (Value.slice none (0 : Nat) (0 : Nat)), AV.d (D.int IntKind.i64 (0 : Int)), AV.d (D.int IntKind.i64 (0 : Int))]) ∧ ((Ob.box [AV.own (1200 : Nat) (3 : Nat), AV.d (D.int IntKind.i64 x.f), AV.d (D.int IntKind.i64 x.u)] = Ob.box [AV.own (1200 : Nat) (3 : Nat), AV.d (D.int IntKind.i64 x.f), AV.d (D.int IntKind.i64 x.u)]) ∧ ((Ob.row (3 : Nat) (List.map ceD (List.take j x.l) ++ [D.agg (List.take (3 : Nat) [D.bool y.v, D.int IntKind.i64 y.x, D.int IntKind.i64 y.l])]) = Ob.row (3 : Nat) (List.map ceD (List.take (j + (1 : Nat)) x.l))) ∧ (True))))))))))))) (False)) (h := {els := [(20, .el (ceD y))]}) (subs := []) (ws := []) (ρ := []) (by kernel_rfl) ?_
  have hj := get_lt hn
  rw [inc_i64 (by omega), take_map_snoc _ hn]
  refine condP_t (by rw [decide_eq_true_eq, List.length_map]; omega) ?_
  repeat' (first | with_reducible exact True.intro | with_reducible refine And.intro ?_ ?_ | with_reducible refine condP_dec (fun _ => ?_) (fun _ => ?_) | with_reducible refine condP_eq (fun _ => ?_) (fun _ => ?_) | with_reducible refine condP_ne (fun _ => ?_) (fun _ => ?_) | with_reducible refine condP_not (condP_dec (fun _ => ?_) (fun _ => ?_)) | with_reducible refine condP_not (condP_eq (fun _ => ?_) (fun _ => ?_)) | with_reducible refine condP_not (condP_intro (fun _ => ?_) (fun _ => ?_)) | with_reducible refine condP_intro (fun _ => ?_) (fun _ => ?_))
  all_goals first | exact el_map hn rfl | rfl | omega | (simp; omega) | (simp [chunk, ceD, D.cells]; done) | skip

set_option maxRecDepth 100000 in
set_option maxHeartbeats 1000000 in
theorem q16 (x : Ar) : Runs Try.prog 0 (loopN Try.prog 16 0) (St.as (I8 x x.l.length) 28) (.exit 0) (St.as (I8 x x.l.length) 28) := by
  refine round_wp (p := condP (decide ((↑x.l.length : Int) < (↑(List.map ceD x.l).length : Int))) (False) ((AV.ptr (0 : Nat) (0 : Nat) = AV.ptr (0 : Nat) (0 : Nat)) ∧ ((AV.ptr (1 : Nat) (0 : Nat) = AV.ptr (1 : Nat) (0 : Nat)) ∧ ((AV.ptr (2 : Nat) (0 : Nat) = AV.ptr (2 : Nat) (0 : Nat)) ∧ ((AV.d (D.int IntKind.i64 (↑x.l.length : Int)) = AV.d (D.int IntKind.i64 (↑x.l.length : Int))) ∧ ((Ob.box [AV.d (D.sl (List.map ceD x.l)), AV.d (D.int IntKind.i64 x.f), AV.d (D.int IntKind.i64 x.u)] = Ob.box [AV.d (D.sl (List.map ceD x.l)), AV.d (D.int IntKind.i64 x.f), AV.d (D.int IntKind.i64 x.u)]) ∧ ((Ob.box [AV.raw (Value.slice none (0 : Nat) (0 : Nat)), AV.d (D.int IntKind.i64 (0 : Int)), AV.d (D.int IntKind.i64 (0 : Int))] = Ob.box [AV.raw (Value.slice none (0 : Nat) (0 : Nat)), AV.d (D.int IntKind.i64 (0 : Int)), AV.d (D.int IntKind.i64 (0 : Int))]) ∧ ((Ob.box [AV.own (3 : Nat) (3 : Nat), AV.d (D.int IntKind.i64 x.f), AV.d (D.int IntKind.i64 x.u)] = Ob.box [AV.own (3 : Nat) (3 : Nat), AV.d (D.int IntKind.i64 x.f), AV.d (D.int IntKind.i64 x.u)]) ∧ ((Ob.row (3 : Nat) (List.map ceD (List.take x.l.length x.l)) = Ob.row (3 : Nat) (List.map ceD (List.take x.l.length x.l))) ∧ (True)))))))))) (h := {}) (subs := []) (ws := []) (ρ := []) (by kernel_rfl) ?_
  repeat' (first | with_reducible exact True.intro | with_reducible refine And.intro ?_ ?_ | with_reducible refine condP_dec (fun _ => ?_) (fun _ => ?_) | with_reducible refine condP_eq (fun _ => ?_) (fun _ => ?_) | with_reducible refine condP_ne (fun _ => ?_) (fun _ => ?_) | with_reducible refine condP_not (condP_dec (fun _ => ?_) (fun _ => ?_)) | with_reducible refine condP_not (condP_eq (fun _ => ?_) (fun _ => ?_)) | with_reducible refine condP_not (condP_intro (fun _ => ?_) (fun _ => ?_)) | with_reducible refine condP_intro (fun _ => ?_) (fun _ => ?_))
  all_goals (try simp only [List.length_map, AV.d.injEq, D.int.injEq, D.bool.injEq, D.str.injEq, D.sl.injEq, true_and, and_true, decide_eq_true_eq, decide_eq_false_iff_not, decide_eq_decide])
  all_goals (try simp only [List.length_map] at *)
  all_goals first | rfl | omega

set_option maxRecDepth 100000 in
set_option maxHeartbeats 1000000 in
theorem own8 (x : Ar) (hl : x.l.length < 1000000) : FnOK Try.prog 8 ([.d (arD x)]) ([]) (.d (arD x)) ([]) := by
  refine fnOK_wp (p := (AV.ptr (1008 : Nat) (0 : Nat) = AV.ptr (1008 : Nat) (0 : Nat)) ∧ ((AV.ptr (1016 : Nat) (0 : Nat) = AV.ptr (1016 : Nat) (0 : Nat)) ∧ ((AV.ptr (1024 : Nat) (0 : Nat) = AV.ptr (1024 : Nat) (0 : Nat)) ∧ ((AV.d (D.int IntKind.i64 (0 : Int)) = AV.d (D.int IntKind.i64 (0 : Int))) ∧ ((Ob.box [AV.d (D.sl (List.map ceD x.l)), AV.d (D.int IntKind.i64 x.f), AV.d (D.int IntKind.i64 x.u)] = Ob.box [AV.d (D.sl (List.map ceD x.l)), AV.d (D.int IntKind.i64 x.f), AV.d (D.int IntKind.i64 x.u)]) ∧ ((Ob.box [AV.raw (Value.slice none (0 : Nat) (0 : Nat)), AV.d (D.int IntKind.i64 (0 : Int)), AV.d (D.int IntKind.i64 (0 : Int))] = Ob.box [AV.raw (Value.slice none (0 : Nat) (0 : Nat)), AV.d (D.int IntKind.i64 (0 : Int)), AV.d (D.int IntKind.i64 (0 : Int))]) ∧ ((Ob.box [AV.own (500 : Nat) (3 : Nat), AV.d (D.int IntKind.i64 x.f), AV.d (D.int IntKind.i64 x.u)] = Ob.box [AV.own (500 : Nat) (3 : Nat), AV.d (D.int IntKind.i64 x.f), AV.d (D.int IntKind.i64 x.u)]) ∧ ((Ob.row (3 : Nat) [] = Ob.row (3 : Nat) []) ∧ ((LoopsS Try.prog (0 : Nat) (loopN Try.prog (8 : Nat) (0 : Nat)) (I8 x (0 : Nat)) (Exit.exit (0 : Nat)) (I8 x x.l.length) (28 : Nat)) ∧ ((AV.d (D.agg [D.sl (List.map ceD (List.take x.l.length x.l)), D.int IntKind.i64 x.f, D.int IntKind.i64 x.u]) = AV.d (D.agg [D.sl (List.map ceD x.l), D.int IntKind.i64 x.f, D.int IntKind.i64 x.u])) ∧ (True))))))))))) (h := {W := [(2, [.nilcell 1024 0 500 3])]}) (subs := [⟨[], [], I8 x 0, .exit 0, I8 x x.l.length⟩]) (ws := []) (ρ := []) (by kernel_rfl) ?_
  have h := loops_n (P := Try.prog) (k := 0) (c := loopN Try.prog 8 0) (e := .exit 0) (I := fun j => (I8 x j).as 28) (by simp) x.l.length 0 (by omega) (fun j _ hj => r8 x hl j x.l[j] (get_of hj)) (q8 x)
  repeat' (first | with_reducible exact True.intro | with_reducible refine And.intro ?_ ?_ | with_reducible refine condP_dec (fun _ => ?_) (fun _ => ?_) | with_reducible refine condP_eq (fun _ => ?_) (fun _ => ?_) | with_reducible refine condP_ne (fun _ => ?_) (fun _ => ?_) | with_reducible refine condP_not (condP_dec (fun _ => ?_) (fun _ => ?_)) | with_reducible refine condP_not (condP_eq (fun _ => ?_) (fun _ => ?_)) | with_reducible refine condP_not (condP_intro (fun _ => ?_) (fun _ => ?_)) | with_reducible refine condP_intro (fun _ => ?_) (fun _ => ?_))
  all_goals first | exact h | rfl | (rw [List.take_length]) | (rw [List.take_length]; rfl) | skip

set_option maxRecDepth 100000 in
set_option maxHeartbeats 1000000 in
theorem back16 (x : Ar) (hl : x.l.length < 1000000) : FnOK Try.prog 16 ([.d (arD x)]) ([]) (.d (arD x)) ([]) := by
  refine fnOK_wp (p := (AV.ptr (1008 : Nat) (0 : Nat) = AV.ptr (1008 : Nat) (0 : Nat)) ∧ ((AV.ptr (1016 : Nat) (0 : Nat) = AV.ptr (1016 : Nat) (0 : Nat)) ∧ ((AV.ptr (1024 : Nat) (0 : Nat) = AV.ptr (1024 : Nat) (0 : Nat)) ∧ ((AV.d (D.int IntKind.i64 (0 : Int)) = AV.d (D.int IntKind.i64 (0 : Int))) ∧ ((Ob.box [AV.d (D.sl (List.map ceD x.l)), AV.d (D.int IntKind.i64 x.f), AV.d (D.int IntKind.i64 x.u)] = Ob.box [AV.d (D.sl (List.map ceD x.l)), AV.d (D.int IntKind.i64 x.f), AV.d (D.int IntKind.i64 x.u)]) ∧ ((Ob.box [AV.raw (Value.slice none (0 : Nat) (0 : Nat)), AV.d (D.int IntKind.i64 (0 : Int)), AV.d (D.int IntKind.i64 (0 : Int))] = Ob.box [AV.raw (Value.slice none (0 : Nat) (0 : Nat)), AV.d (D.int IntKind.i64 (0 : Int)), AV.d (D.int IntKind.i64 (0 : Int))]) ∧ ((Ob.box [AV.own (500 : Nat) (3 : Nat), AV.d (D.int IntKind.i64 x.f), AV.d (D.int IntKind.i64 x.u)] = Ob.box [AV.own (500 : Nat) (3 : Nat), AV.d (D.int IntKind.i64 x.f), AV.d (D.int IntKind.i64 x.u)]) ∧ ((Ob.row (3 : Nat) [] = Ob.row (3 : Nat) []) ∧ ((LoopsS Try.prog (0 : Nat) (loopN Try.prog (16 : Nat) (0 : Nat)) (I8 x (0 : Nat)) (Exit.exit (0 : Nat)) (I8 x x.l.length) (28 : Nat)) ∧ ((AV.d (D.agg [D.sl (List.map ceD (List.take x.l.length x.l)), D.int IntKind.i64 x.f, D.int IntKind.i64 x.u]) = AV.d (D.agg [D.sl (List.map ceD x.l), D.int IntKind.i64 x.f, D.int IntKind.i64 x.u])) ∧ (True))))))))))) (h := {W := [(2, [.nilcell 1024 0 500 3])]}) (subs := [⟨[], [], I8 x 0, .exit 0, I8 x x.l.length⟩]) (ws := []) (ρ := []) (by kernel_rfl) ?_
  have h := loops_n (P := Try.prog) (k := 0) (c := loopN Try.prog 16 0) (e := .exit 0) (I := fun j => (I8 x j).as 28) (by simp) x.l.length 0 (by omega) (fun j _ hj => r16 x hl j x.l[j] (get_of hj)) (q16 x)
  repeat' (first | with_reducible exact True.intro | with_reducible refine And.intro ?_ ?_ | with_reducible refine condP_dec (fun _ => ?_) (fun _ => ?_) | with_reducible refine condP_eq (fun _ => ?_) (fun _ => ?_) | with_reducible refine condP_ne (fun _ => ?_) (fun _ => ?_) | with_reducible refine condP_not (condP_dec (fun _ => ?_) (fun _ => ?_)) | with_reducible refine condP_not (condP_eq (fun _ => ?_) (fun _ => ?_)) | with_reducible refine condP_not (condP_intro (fun _ => ?_) (fun _ => ?_)) | with_reducible refine condP_intro (fun _ => ?_) (fun _ => ?_))
  all_goals first | exact h | rfl | (rw [List.take_length]) | (rw [List.take_length]; rfl) | skip

/-! ### Two rows of numbers -/
def I21 (a b : List Int) (j : Nat) : St := ⟨[(0, .d (.sl (inD a))), (1, .d (.sl (inD b))), (5, .d (.int .i64 j))], []⟩
set_option maxRecDepth 100000 in
set_option maxHeartbeats 1000000 in
theorem r21 (a b : List Int) (hl : a.length < 1000000) (j : Nat) (x y : Int) (hx : a[j]? = some x) (hy : b[j]? = some y) (hne : x = y) : Runs Try.prog 0 (loopN Try.prog 21 0) (St.as (I21 a b j) 26) (.normal) (St.as (I21 a b (j+1)) 26) := by
  refine round_wp (p := condP (decide ((↑j : Int) < (↑(inD a).length : Int))) (((0 : Int) ≤ (↑j : Int)) ∧ (((inD a)[(↑j : Int).toNat]? = some (D.int IntKind.i64 x)) ∧ (((0 : Int) ≤ (↑j : Int)) ∧ (((inD b)[(↑j : Int).toNat]? = some (D.int IntKind.i64 y)) ∧ ((D.bool (x != y) = D.bool false) ∧ ((AV.d (D.sl (inD a)) = AV.d (D.sl (inD a))) ∧ ((AV.d (D.sl (inD b)) = AV.d (D.sl (inD b))) ∧ ((AV.d (D.int IntKind.i64 (IntKind.i64.wrap ((↑j : Int) + (1 : Int)))) = AV.d (D.int IntKind.i64 (↑(j + (1 : Nat)) : Int))) ∧ (True))))))))) (False)) (h := {els := [(17, .el (.int .i64 x)), (21, .el (.int .i64 y))], H := [(6, [(8, .val (.bool false))])]}) (subs := []) (ws := []) (ρ := []) (by kernel_rfl) ?_
  have hj := get_lt hx
  have hj2 := get_lt hy
  have hi := inc_i64 (j := j) (by omega)
  have e1 : (inD a)[((j : Int)).toNat]? = some (.int .i64 x) := by unfold inD; exact el_map hx rfl
  have e2 : (inD b)[((j : Int)).toNat]? = some (.int .i64 y) := by unfold inD; exact el_map hy rfl
  simp only [inD_len, hi]
  refine condP_t (by rw [decide_eq_true_eq]; omega) ?_
  repeat' (first | with_reducible exact True.intro | with_reducible refine And.intro ?_ ?_ | with_reducible refine condP_dec (fun _ => ?_) (fun _ => ?_) | with_reducible refine condP_eq (fun _ => ?_) (fun _ => ?_) | with_reducible refine condP_ne (fun _ => ?_) (fun _ => ?_) | with_reducible refine condP_not (condP_dec (fun _ => ?_) (fun _ => ?_)) | with_reducible refine condP_not (condP_eq (fun _ => ?_) (fun _ => ?_)) | with_reducible refine condP_not (condP_intro (fun _ => ?_) (fun _ => ?_)) | with_reducible refine condP_intro (fun _ => ?_) (fun _ => ?_))
  all_goals first | exact e1 | exact e2 | rfl | omega | (refine congrArg D.bool ?_; simp_all; done) | (exfalso; simp_all; done) | skip

set_option maxRecDepth 100000 in
set_option maxHeartbeats 1000000 in
theorem e21 (a b : List Int) (hl : a.length < 1000000) (j : Nat) (x y : Int) (hx : a[j]? = some x) (hy : b[j]? = some y) (hne : x ≠ y) : Runs Try.prog 0 (loopN Try.prog 21 0) (St.as (I21 a b j) 26) (.ret) (St.as (O15) 26) := by
  refine round_wp (p := condP (decide ((↑j : Int) < (↑(inD a).length : Int))) (((0 : Int) ≤ (↑j : Int)) ∧ (((inD a)[(↑j : Int).toNat]? = some (D.int IntKind.i64 x)) ∧ (((0 : Int) ≤ (↑j : Int)) ∧ (((inD b)[(↑j : Int).toNat]? = some (D.int IntKind.i64 y)) ∧ ((D.bool (x != y) = D.bool true) ∧ ((AV.d (D.bool false) = AV.d (D.bool false)) ∧ (True))))))) (False)) (h := {els := [(17, .el (.int .i64 x)), (21, .el (.int .i64 y))], H := [(6, [(8, .val (.bool true))])]}) (subs := []) (ws := []) (ρ := []) (by kernel_rfl) ?_
  have hj := get_lt hx
  have hj2 := get_lt hy
  have hi := inc_i64 (j := j) (by omega)
  have e1 : (inD a)[((j : Int)).toNat]? = some (.int .i64 x) := by unfold inD; exact el_map hx rfl
  have e2 : (inD b)[((j : Int)).toNat]? = some (.int .i64 y) := by unfold inD; exact el_map hy rfl
  simp only [inD_len, hi]
  refine condP_t (by rw [decide_eq_true_eq]; omega) ?_
  repeat' (first | with_reducible exact True.intro | with_reducible refine And.intro ?_ ?_ | with_reducible refine condP_dec (fun _ => ?_) (fun _ => ?_) | with_reducible refine condP_eq (fun _ => ?_) (fun _ => ?_) | with_reducible refine condP_ne (fun _ => ?_) (fun _ => ?_) | with_reducible refine condP_not (condP_dec (fun _ => ?_) (fun _ => ?_)) | with_reducible refine condP_not (condP_eq (fun _ => ?_) (fun _ => ?_)) | with_reducible refine condP_not (condP_intro (fun _ => ?_) (fun _ => ?_)) | with_reducible refine condP_intro (fun _ => ?_) (fun _ => ?_))
  all_goals first | exact e1 | exact e2 | rfl | omega | (refine congrArg D.bool ?_; simp_all; done) | (exfalso; simp_all; done) | skip

set_option maxRecDepth 100000 in
set_option maxHeartbeats 1000000 in
theorem q21 (a b : List Int) : Runs Try.prog 0 (loopN Try.prog 21 0) (St.as (I21 a b a.length) 26) (.exit 0) (St.as (I21 a b a.length) 26) := by
  refine round_wp (p := condP (decide ((↑a.length : Int) < (↑(inD a).length : Int))) (False) ((AV.d (D.sl (inD a)) = AV.d (D.sl (inD a))) ∧ ((AV.d (D.sl (inD b)) = AV.d (D.sl (inD b))) ∧ ((AV.d (D.int IntKind.i64 (↑a.length : Int)) = AV.d (D.int IntKind.i64 (↑a.length : Int))) ∧ (True))))) (h := {}) (subs := []) (ws := []) (ρ := []) (by kernel_rfl) ?_
  have hln := inD_len a
  rw [hln]
  repeat' (first | with_reducible exact True.intro | with_reducible refine And.intro ?_ ?_ | with_reducible refine condP_dec (fun _ => ?_) (fun _ => ?_) | with_reducible refine condP_eq (fun _ => ?_) (fun _ => ?_) | with_reducible refine condP_ne (fun _ => ?_) (fun _ => ?_) | with_reducible refine condP_not (condP_dec (fun _ => ?_) (fun _ => ?_)) | with_reducible refine condP_not (condP_eq (fun _ => ?_) (fun _ => ?_)) | with_reducible refine condP_not (condP_intro (fun _ => ?_) (fun _ => ?_)) | with_reducible refine condP_intro (fun _ => ?_) (fun _ => ?_))
  all_goals (try simp only [List.length_map, AV.d.injEq, D.int.injEq, D.bool.injEq, D.str.injEq, D.sl.injEq, true_and, and_true, decide_eq_true_eq, decide_eq_false_iff_not, decide_eq_decide])
  all_goals (try simp only [List.length_map] at *)
  all_goals first | rfl | omega

set_option maxRecDepth 100000 in
set_option maxHeartbeats 1000000 in
theorem ints21l (a b : List Int) (h : a.length ≠ b.length) (hL : True) : FnOK Try.prog 21 ([.d (.sl (inD a)), .d (.sl (inD b))]) ([]) (.d (.bool false)) ([]) := by
  refine fnOK_wp (p := (D.bool ((↑(inD a).length : Int) != (↑(inD b).length : Int)) = D.bool true) ∧ ((AV.d (D.bool false) = AV.d (D.bool false)) ∧ (True))) (h := {H := [(1, [(4, .val (.bool true))])]}) (subs := []) (ws := []) (ρ := []) (by kernel_rfl) ?_
  simp only [inD_len]
  repeat' (first | with_reducible exact True.intro | with_reducible refine And.intro ?_ ?_ | with_reducible refine condP_dec (fun _ => ?_) (fun _ => ?_) | with_reducible refine condP_eq (fun _ => ?_) (fun _ => ?_) | with_reducible refine condP_ne (fun _ => ?_) (fun _ => ?_) | with_reducible refine condP_not (condP_dec (fun _ => ?_) (fun _ => ?_)) | with_reducible refine condP_not (condP_eq (fun _ => ?_) (fun _ => ?_)) | with_reducible refine condP_not (condP_intro (fun _ => ?_) (fun _ => ?_)) | with_reducible refine condP_intro (fun _ => ?_) (fun _ => ?_))
  all_goals first | exact hL | rfl | exact dno (by omega) | exact dyes (by omega) | (refine congrArg D.bool ?_; simp_all; done) | (refine congrArg D.bool ?_; simp; omega) | (exfalso; omega) | skip

set_option maxRecDepth 100000 in
set_option maxHeartbeats 1000000 in
theorem ints21n (a b : List Int) (h : a.length = b.length) (hL : Loops Try.prog 0 (loopN Try.prog 21 0) ((I21 a b 0).as 26) .ret ((O15).as 26)) : FnOK Try.prog 21 ([.d (.sl (inD a)), .d (.sl (inD b))]) ([]) (.d (.bool false)) ([]) := by
  refine fnOK_wp (p := (D.bool ((↑(inD a).length : Int) != (↑(inD b).length : Int)) = D.bool false) ∧ ((AV.d (D.sl (inD a)) = AV.d (D.sl (inD a))) ∧ ((AV.d (D.sl (inD b)) = AV.d (D.sl (inD b))) ∧ ((AV.d (D.int IntKind.i64 (0 : Int)) = AV.d (D.int IntKind.i64 (0 : Int))) ∧ ((LoopsS Try.prog (0 : Nat) (loopN Try.prog (21 : Nat) (0 : Nat)) (I21 a b (0 : Nat)) Exit.ret O15 (26 : Nat)) ∧ ((AV.d (D.bool false) = AV.d (D.bool false)) ∧ (True))))))) (h := {H := [(1, [(4, .val (.bool false))])]}) (subs := [⟨[], [], I21 a b 0, .ret, O15⟩]) (ws := []) (ρ := []) (by kernel_rfl) ?_
  simp only [inD_len]
  repeat' (first | with_reducible exact True.intro | with_reducible refine And.intro ?_ ?_ | with_reducible refine condP_dec (fun _ => ?_) (fun _ => ?_) | with_reducible refine condP_eq (fun _ => ?_) (fun _ => ?_) | with_reducible refine condP_ne (fun _ => ?_) (fun _ => ?_) | with_reducible refine condP_not (condP_dec (fun _ => ?_) (fun _ => ?_)) | with_reducible refine condP_not (condP_eq (fun _ => ?_) (fun _ => ?_)) | with_reducible refine condP_not (condP_intro (fun _ => ?_) (fun _ => ?_)) | with_reducible refine condP_intro (fun _ => ?_) (fun _ => ?_))
  all_goals first | exact hL | rfl | exact dno (by omega) | exact dyes (by omega) | (refine congrArg D.bool ?_; simp_all; done) | (refine congrArg D.bool ?_; simp; omega) | (exfalso; omega) | skip

set_option maxRecDepth 100000 in
set_option maxHeartbeats 1000000 in
theorem ints21y (a b : List Int) (h : a.length = b.length) (hL : Loops Try.prog 0 (loopN Try.prog 21 0) ((I21 a b 0).as 26) (.exit 0) ((I21 a b a.length).as 26)) : FnOK Try.prog 21 ([.d (.sl (inD a)), .d (.sl (inD b))]) ([]) (.d (.bool true)) ([]) := by
  refine fnOK_wp (p := (D.bool ((↑(inD a).length : Int) != (↑(inD b).length : Int)) = D.bool false) ∧ ((AV.d (D.sl (inD a)) = AV.d (D.sl (inD a))) ∧ ((AV.d (D.sl (inD b)) = AV.d (D.sl (inD b))) ∧ ((AV.d (D.int IntKind.i64 (0 : Int)) = AV.d (D.int IntKind.i64 (0 : Int))) ∧ ((LoopsS Try.prog (0 : Nat) (loopN Try.prog (21 : Nat) (0 : Nat)) (I21 a b (0 : Nat)) (Exit.exit (0 : Nat)) (I21 a b a.length) (26 : Nat)) ∧ ((AV.d (D.bool true) = AV.d (D.bool true)) ∧ (True))))))) (h := {H := [(1, [(4, .val (.bool false))])]}) (subs := [⟨[], [], I21 a b 0, .exit 0, I21 a b a.length⟩]) (ws := []) (ρ := []) (by kernel_rfl) ?_
  simp only [inD_len]
  repeat' (first | with_reducible exact True.intro | with_reducible refine And.intro ?_ ?_ | with_reducible refine condP_dec (fun _ => ?_) (fun _ => ?_) | with_reducible refine condP_eq (fun _ => ?_) (fun _ => ?_) | with_reducible refine condP_ne (fun _ => ?_) (fun _ => ?_) | with_reducible refine condP_not (condP_dec (fun _ => ?_) (fun _ => ?_)) | with_reducible refine condP_not (condP_eq (fun _ => ?_) (fun _ => ?_)) | with_reducible refine condP_not (condP_intro (fun _ => ?_) (fun _ => ?_)) | with_reducible refine condP_intro (fun _ => ?_) (fun _ => ?_))
  all_goals first | exact hL | rfl | exact dno (by omega) | exact dyes (by omega) | (refine congrArg D.bool ?_; simp_all; done) | (refine congrArg D.bool ?_; simp; omega) | (exfalso; omega) | skip

theorem ints21 (a b : List Int) (hl : a.length < 1000000) : FnOK Try.prog 21 [.d (.sl (inD a)), .d (.sl (inD b))] [] (.d (.bool (decide (a = b)))) [] := by
  by_cases h : a.length = b.length
  · by_cases hc : a = b
    · rw [decide_eq_true hc]
      exact ints21y a b h (loops_n (I := fun j => (I21 a b j).as 26) (by simp) a.length 0 (by omega) (fun j _ hj => r21 a b hl j _ _ (get_of hj) (by rw [← hc]; exact get_of hj) rfl) (q21 a b))
    · obtain ⟨m, x, y, h1, h2, h3, h4⟩ := (diff_or _ _ h).resolve_left hc
      have hm := get_lt h1
      rw [decide_eq_false hc]
      exact ints21n a b h (loops_n (I := fun j => (I21 a b j).as 26) (by simp) m 0 (by omega) (fun j _ hj => r21 a b hl j (a[j]'(by omega)) (a[j]'(by omega)) (get_of _) (h4 j _ hj (get_of _)) rfl) (e21 a b hl m x y h1 h2 h3))
  · rw [decide_eq_false (fun g => h (by rw [g]))]; exact ints21l a b h trivial
end Go.Proofs.Ytgdifegembfjoaa
