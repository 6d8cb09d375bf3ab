/-
laws 24: small ones; up to where; whether it may be; whether it is closed.
-/
import Derived.Test.YtfacpafkldmkcaaS0
import Derived.KernelRfl
set_option linter.unusedSimpArgs false
set_option linter.unusedVariables false
namespace Go.Proofs.Ytfacpafkldmkcaa
open Sx Go.RowKit C12

set_option maxRecDepth 100000 in
set_option maxHeartbeats 1000000 in
theorem look26 (x : Rs) : FnOK Try.prog 26 ([.d (rsD x)]) ([]) (.d (rsD x)) ([]) := by
  refine fnOK_wp (p := (AV.d (D.agg [D.int IntKind.i64 x.s.b, D.str x.s.r, D.sl (List.map ptD x.s.p), D.int IntKind.i64 x.e]) = AV.d (D.agg [D.int IntKind.i64 x.s.b, D.str x.s.r, D.sl (List.map ptD x.s.p), D.int IntKind.i64 x.e])) ∧ (True)) (h := {}) (subs := []) (ws := []) (ρ := []) (by kernel_rfl) ?_
  exact ⟨rfl, trivial⟩

set_option maxRecDepth 100000 in
set_option maxHeartbeats 1000000 in
theorem known34 (x : Rs) : FnOK Try.prog 34 ([.d (rsD x)]) ([]) (.d (.bool (decide (x.e ≥ 0)))) ([]) := by
  refine fnOK_wp (p := (AV.d (D.bool (decide (x.e ≥ (0 : Int)))) = AV.d (D.bool (decide (x.e ≥ (0 : Int))))) ∧ (True)) (h := {}) (subs := []) (ws := []) (ρ := []) (by kernel_rfl) ?_
  exact ⟨rfl, trivial⟩

set_option maxRecDepth 100000 in
set_option maxHeartbeats 1000000 in
theorem high35n (b e : Int) (r : List UInt8) : FnOK Try.prog 35 ([.d (rsD ⟨⟨b, r, []⟩, e⟩)]) ([]) (.d (.int .i64 b)) ([]) := by
  refine fnOK_wp (p := (AV.d (D.int IntKind.i64 (Rs.mk (Rq.mk b r []) e).s.b) = AV.d (D.int IntKind.i64 b)) ∧ (True)) (h := {}) (subs := []) (ws := []) (ρ := []) (by kernel_rfl) ?_
  repeat' (first | with_reducible exact True.intro | with_reducible refine And.intro ?_ ?_ | with_reducible refine condP_dec (fun _ => ?_) (fun _ => ?_) | with_reducible refine condP_eq (fun _ => ?_) (fun _ => ?_) | with_reducible refine condP_ne (fun _ => ?_) (fun _ => ?_) | with_reducible refine condP_not (condP_dec (fun _ => ?_) (fun _ => ?_)) | with_reducible refine condP_not (condP_eq (fun _ => ?_) (fun _ => ?_)) | with_reducible refine condP_not (condP_intro (fun _ => ?_) (fun _ => ?_)) | with_reducible refine condP_intro (fun _ => ?_) (fun _ => ?_))
  all_goals first | rfl | skip

set_option maxRecDepth 100000 in
set_option maxHeartbeats 1000000 in
theorem high35y (b e : Int) (r : List UInt8) (l : List Pt) (y : Pt) (hl : l.length < 1000000) (hw : IntKind.i64.wrap (pEnd y) = pEnd y) : FnOK Try.prog 35 ([.d (rsD ⟨⟨b, r, l ++ [y]⟩, e⟩)]) ([]) (.d (.int .i64 (pEnd y))) ([]) := by
  refine fnOK_wp (p := (D.bool (decide ((↑(List.map ptD (Rs.mk (Rq.mk b r (l ++ [y])) e).s.p).length : Int) > (0 : Int))) = D.bool true) ∧ (((0 : Int) ≤ IntKind.i64.wrap ((↑(List.map ptD (Rs.mk (Rq.mk b r (l ++ [y])) e).s.p).length : Int) - (1 : Int))) ∧ (((List.map ptD (Rs.mk (Rq.mk b r (l ++ [y])) e).s.p)[(IntKind.i64.wrap ((↑(List.map ptD (Rs.mk (Rq.mk b r (l ++ [y])) e).s.p).length : Int) - (1 : Int))).toNat]? = some (D.agg [D.int IntKind.i64 y.a, D.str y.d])) ∧ (((0 : Int) ≤ IntKind.i64.wrap ((↑(List.map ptD (Rs.mk (Rq.mk b r (l ++ [y])) e).s.p).length : Int) - (1 : Int))) ∧ (((List.map ptD (Rs.mk (Rq.mk b r (l ++ [y])) e).s.p)[(IntKind.i64.wrap ((↑(List.map ptD (Rs.mk (Rq.mk b r (l ++ [y])) e).s.p).length : Int) - (1 : Int))).toNat]? = some (D.agg [D.int IntKind.i64 y.a, D.str y.d])) ∧ ((AV.d (D.int IntKind.i64 (IntKind.i64.wrap (y.a + (↑y.d.length : Int)))) = AV.d (D.int IntKind.i64 (pEnd y))) ∧ (True))))))) (h := {H := [(2, [(1, .val (.bool true))])], els := [(12, .el (ptD y)), (20, .el (ptD y))]}) (subs := []) (ws := []) (ρ := []) (by kernel_rfl) ?_
  have e1 : ((l ++ [y]).map ptD).length = l.length + 1 := by simp
  have w1 : IntKind.i64.wrap (((l.length + 1 : Nat) : Int) - 1) = l.length := by rw [IntKind.wrap_i64]; omega
  have e2 : ((l ++ [y]).map ptD)[l.length]? = some (ptD y) := by simp
  have e2' : ((l ++ [y]).map ptD)[((l.length : Int)).toNat]? = some (ptD y) := e2
  have w2 : IntKind.i64.wrap (y.a + y.d.length) = pEnd y := hw
  simp only [e1, w1, w2]
  repeat' (first | with_reducible exact True.intro | with_reducible refine And.intro ?_ ?_ | with_reducible refine condP_dec (fun _ => ?_) (fun _ => ?_) | with_reducible refine condP_eq (fun _ => ?_) (fun _ => ?_) | with_reducible refine condP_ne (fun _ => ?_) (fun _ => ?_) | with_reducible refine condP_not (condP_dec (fun _ => ?_) (fun _ => ?_)) | with_reducible refine condP_not (condP_eq (fun _ => ?_) (fun _ => ?_)) | with_reducible refine condP_not (condP_intro (fun _ => ?_) (fun _ => ?_)) | with_reducible refine condP_intro (fun _ => ?_) (fun _ => ?_))
  all_goals first | exact e2' | rfl | omega | exact dyes (by omega) | exact dno (by omega) | (refine congrArg D.bool ?_; simp; omega) | skip

set_option maxRecDepth 100000 in
set_option maxHeartbeats 1000000 in
theorem high20n (b e : Int) (r : List UInt8) : FnOK Try.prog 20 ([.d (rsD ⟨⟨b, r, []⟩, e⟩)]) ([]) (.d (.int .i64 b)) ([]) := by
  refine fnOK_wp (p := (AV.d (D.int IntKind.i64 (Rs.mk (Rq.mk b r []) e).s.b) = AV.d (D.int IntKind.i64 b)) ∧ (True)) (h := {}) (subs := []) (ws := []) (ρ := []) (by kernel_rfl) ?_
  repeat' (first | with_reducible exact True.intro | with_reducible refine And.intro ?_ ?_ | with_reducible refine condP_dec (fun _ => ?_) (fun _ => ?_) | with_reducible refine condP_eq (fun _ => ?_) (fun _ => ?_) | with_reducible refine condP_ne (fun _ => ?_) (fun _ => ?_) | with_reducible refine condP_not (condP_dec (fun _ => ?_) (fun _ => ?_)) | with_reducible refine condP_not (condP_eq (fun _ => ?_) (fun _ => ?_)) | with_reducible refine condP_not (condP_intro (fun _ => ?_) (fun _ => ?_)) | with_reducible refine condP_intro (fun _ => ?_) (fun _ => ?_))
  all_goals first | rfl | skip

set_option maxRecDepth 100000 in
set_option maxHeartbeats 1000000 in
theorem high20y (b e : Int) (r : List UInt8) (l : List Pt) (y : Pt) (hl : l.length < 1000000) (hw : IntKind.i64.wrap (pEnd y) = pEnd y) : FnOK Try.prog 20 ([.d (rsD ⟨⟨b, r, l ++ [y]⟩, e⟩)]) ([]) (.d (.int .i64 (pEnd y))) ([]) := by
  refine fnOK_wp (p := (D.bool ((↑(List.map ptD (Rs.mk (Rq.mk b r (l ++ [y])) e).s.p).length : Int) == (0 : Int)) = D.bool false) ∧ (((0 : Int) ≤ IntKind.i64.wrap ((↑(List.map ptD (Rs.mk (Rq.mk b r (l ++ [y])) e).s.p).length : Int) - (1 : Int))) ∧ (((List.map ptD (Rs.mk (Rq.mk b r (l ++ [y])) e).s.p)[(IntKind.i64.wrap ((↑(List.map ptD (Rs.mk (Rq.mk b r (l ++ [y])) e).s.p).length : Int) - (1 : Int))).toNat]? = some (D.agg [D.int IntKind.i64 y.a, D.str y.d])) ∧ ((AV.d (D.int IntKind.i64 (IntKind.i64.wrap (y.a + (↑y.d.length : Int)))) = AV.d (D.int IntKind.i64 (pEnd y))) ∧ (True))))) (h := {H := [(2, [(1, .val (.bool false))])], els := [(16, .el (ptD y))]}) (subs := []) (ws := []) (ρ := []) (by kernel_rfl) ?_
  have e1 : ((l ++ [y]).map ptD).length = l.length + 1 := by simp
  have w1 : IntKind.i64.wrap (((l.length + 1 : Nat) : Int) - 1) = l.length := by rw [IntKind.wrap_i64]; omega
  have e2 : ((l ++ [y]).map ptD)[l.length]? = some (ptD y) := by simp
  have e2' : ((l ++ [y]).map ptD)[((l.length : Int)).toNat]? = some (ptD y) := e2
  have w2 : IntKind.i64.wrap (y.a + y.d.length) = pEnd y := hw
  simp only [e1, w1, w2]
  repeat' (first | with_reducible exact True.intro | with_reducible refine And.intro ?_ ?_ | with_reducible refine condP_dec (fun _ => ?_) (fun _ => ?_) | with_reducible refine condP_eq (fun _ => ?_) (fun _ => ?_) | with_reducible refine condP_ne (fun _ => ?_) (fun _ => ?_) | with_reducible refine condP_not (condP_dec (fun _ => ?_) (fun _ => ?_)) | with_reducible refine condP_not (condP_eq (fun _ => ?_) (fun _ => ?_)) | with_reducible refine condP_not (condP_intro (fun _ => ?_) (fun _ => ?_)) | with_reducible refine condP_intro (fun _ => ?_) (fun _ => ?_))
  all_goals first | exact e2' | rfl | omega | exact dyes (by omega) | exact dno (by omega) | (refine congrArg D.bool ?_; simp; omega) | skip

set_option maxRecDepth 100000 in
set_option maxHeartbeats 1000000 in
theorem high19 (x : Rs) (n : Int) (k1 : FnOK Try.prog 35 [.d (rsD x)] [] (.d (.int .i64 n)) []) : FnOK Try.prog 19 ([.d (rsD x)]) ([]) (.d (.int .i64 n)) ([]) := by
  refine fnOK_wp (p := (FnOK Try.prog (26 : Nat) [AV.d (D.agg [D.int IntKind.i64 x.s.b, D.str x.s.r, D.sl (List.map ptD x.s.p), D.int IntKind.i64 x.e])] [] (AV.d (D.agg [D.int IntKind.i64 x.s.b, D.str x.s.r, D.sl (List.map ptD x.s.p), D.int IntKind.i64 x.e])) []) ∧ ((FnOK Try.prog (35 : Nat) [AV.d (D.agg [D.int IntKind.i64 x.s.b, D.str x.s.r, D.sl (List.map ptD x.s.p), D.int IntKind.i64 x.e])] [] (AV.d (D.int IntKind.i64 n)) []) ∧ ((AV.d (D.int IntKind.i64 n) = AV.d (D.int IntKind.i64 n)) ∧ (True)))) (h := {G := [(26, gId), (35, gAns (.d (.int .i64 n)))]}) (subs := []) (ws := []) (ρ := []) (by kernel_rfl) ?_
  have k2 := look26 x
  repeat' (first | with_reducible exact True.intro | with_reducible refine And.intro ?_ ?_ | with_reducible refine condP_dec (fun _ => ?_) (fun _ => ?_) | with_reducible refine condP_eq (fun _ => ?_) (fun _ => ?_) | with_reducible refine condP_ne (fun _ => ?_) (fun _ => ?_) | with_reducible refine condP_not (condP_dec (fun _ => ?_) (fun _ => ?_)) | with_reducible refine condP_not (condP_eq (fun _ => ?_) (fun _ => ?_)) | with_reducible refine condP_not (condP_intro (fun _ => ?_) (fun _ => ?_)) | with_reducible refine condP_intro (fun _ => ?_) (fun _ => ?_))
  all_goals first | exact k1 | exact k2 | rfl | skip

theorem hi35 {s : Rq} (h : Ok s) (hl : s.p.length < 1000000) (e : Int) : FnOK Try.prog 35 [.d (rsD ⟨s, e⟩)] [] (.d (.int .i64 (sHigh ⟨s, e⟩))) [] := by
  obtain ⟨b, r, p⟩ := s
  rcases List.eq_nil_or_concat p with rfl | ⟨l, y, rfl⟩
  · exact high35n b e r
  · rw [List.concat_eq_append] at *
    have h1 := hi_bd h
    have e1 : sHigh ⟨⟨b, r, l ++ [y]⟩, e⟩ = pEnd y := hiP_snoc _ _ _
    have e2 : hiP b (l ++ [y]) = pEnd y := hiP_snoc _ _ _
    simp only at h1 hl
    rw [e2] at h1
    rw [e1]
    rw [List.length_append] at hl
    exact high35y b e r l y (by omega) (by rw [IntKind.wrap_i64]; omega)
theorem hi20 {s : Rq} (h : Ok s) (hl : s.p.length < 1000000) (e : Int) : FnOK Try.prog 20 [.d (rsD ⟨s, e⟩)] [] (.d (.int .i64 (sHigh ⟨s, e⟩))) [] := by
  obtain ⟨b, r, p⟩ := s
  rcases List.eq_nil_or_concat p with rfl | ⟨l, y, rfl⟩
  · exact high20n b e r
  · rw [List.concat_eq_append] at *
    have h1 := hi_bd h
    have e1 : sHigh ⟨⟨b, r, l ++ [y]⟩, e⟩ = pEnd y := hiP_snoc _ _ _
    have e2 : hiP b (l ++ [y]) = pEnd y := hiP_snoc _ _ _
    simp only at h1 hl
    rw [e2] at h1
    rw [e1]
    rw [List.length_append] at hl
    exact high20y b e r l y (by omega) (by rw [IntKind.wrap_i64]; omega)
theorem hi19 {x : Rs} (h : Ok x.s) (hl : x.s.p.length < 1000000) : FnOK Try.prog 19 [.d (rsD x)] [] (.d (.int .i64 (sHigh x))) [] := high19 x _ (hi35 h hl x.e)
/-! ### Check -/
set_option maxRecDepth 100000 in
set_option maxHeartbeats 1000000 in
theorem chk13a (x : Rs) (c : Int) (h : c ≠ 0) (k2 : True) (k1 : FnOK Try.prog 32 [.d (rqD x.s)] [] (.d (.int .i64 c)) []) : FnOK Try.prog 13 ([.d (rsD x)]) ([]) (.d (.int .i64 c)) ([]) := by
  refine fnOK_wp (p := (FnOK Try.prog (32 : Nat) [AV.d (D.agg [D.int IntKind.i64 x.s.b, D.str x.s.r, D.sl (List.map ptD x.s.p)])] [] (AV.d (D.int IntKind.i64 c)) []) ∧ ((D.bool (c != (0 : Int)) = D.bool true) ∧ ((AV.d (D.int IntKind.i64 c) = AV.d (D.int IntKind.i64 c)) ∧ (True)))) (h := {G := [(32, gAns (.d (.int .i64 c)))], H := [(2, [(1, .val (.bool true))])]}) (subs := []) (ws := []) (ρ := []) (by kernel_rfl) ?_
  repeat' (first | with_reducible exact True.intro | with_reducible refine And.intro ?_ ?_ | with_reducible refine condP_dec (fun _ => ?_) (fun _ => ?_) | with_reducible refine condP_eq (fun _ => ?_) (fun _ => ?_) | with_reducible refine condP_ne (fun _ => ?_) (fun _ => ?_) | with_reducible refine condP_not (condP_dec (fun _ => ?_) (fun _ => ?_)) | with_reducible refine condP_not (condP_eq (fun _ => ?_) (fun _ => ?_)) | with_reducible refine condP_not (condP_intro (fun _ => ?_) (fun _ => ?_)) | with_reducible refine condP_intro (fun _ => ?_) (fun _ => ?_))
  all_goals first | exact k1 | exact k2 | rfl | exact dyes (by omega) | exact dno (by omega) | (refine congrArg D.bool ?_; simp; omega) | (exfalso; simp_all; omega) | (exfalso; simp_all; done) | (refine congrArg D.bool ?_; simpa using h) | skip

set_option maxRecDepth 100000 in
set_option maxHeartbeats 1000000 in
theorem chk13b (x : Rs) (n : Int) (h : x.e ≠ -1 ∧ (x.e < n ∨ x.e > 1099511627776)) (k2 : FnOK Try.prog 19 [.d (rsD x)] [] (.d (.int .i64 n)) []) (k1 : FnOK Try.prog 32 [.d (rqD x.s)] [] (.d (.int .i64 0)) []) : FnOK Try.prog 13 ([.d (rsD x)]) ([]) (.d (.int .i64 8)) ([]) := by
  refine fnOK_wp (p := (FnOK Try.prog (32 : Nat) [AV.d (D.agg [D.int IntKind.i64 x.s.b, D.str x.s.r, D.sl (List.map ptD x.s.p)])] [] (AV.d (D.int IntKind.i64 (0 : Int))) []) ∧ (condP (decide (x.e < n)) ((D.bool (x.e != (-1 : Int)) = D.bool true) ∧ ((D.bool true = D.bool true) ∧ ((FnOK Try.prog (19 : Nat) [AV.d (D.agg [D.int IntKind.i64 x.s.b, D.str x.s.r, D.sl (List.map ptD x.s.p), D.int IntKind.i64 x.e])] [] (AV.d (D.int IntKind.i64 n)) []) ∧ ((D.bool (decide (x.e < n)) = D.bool true) ∧ ((AV.d (D.int IntKind.i64 (8 : Int)) = AV.d (D.int IntKind.i64 (8 : Int))) ∧ (True)))))) ((D.bool (x.e != (-1 : Int)) = D.bool true) ∧ ((D.bool true = D.bool true) ∧ ((FnOK Try.prog (19 : Nat) [AV.d (D.agg [D.int IntKind.i64 x.s.b, D.str x.s.r, D.sl (List.map ptD x.s.p), D.int IntKind.i64 x.e])] [] (AV.d (D.int IntKind.i64 n)) []) ∧ ((D.bool (decide (x.e < n)) = D.bool false) ∧ (condP (decide (x.e > (1099511627776 : Int))) ((AV.d (D.int IntKind.i64 (8 : Int)) = AV.d (D.int IntKind.i64 (8 : Int))) ∧ (True)) ((AV.d (D.int IntKind.i64 (0 : Int)) = AV.d (D.int IntKind.i64 (8 : Int))) ∧ (True))))))))) (h := {G := [(32, gAns (.d (.int .i64 0))), (19, gAns (.d (.int .i64 n)))], H := [(4, [(2, .val (.bool true))])]}) (subs := []) (ws := []) (ρ := []) (by kernel_rfl) ?_
  repeat' (first | with_reducible exact True.intro | with_reducible refine And.intro ?_ ?_ | with_reducible refine condP_dec (fun _ => ?_) (fun _ => ?_) | with_reducible refine condP_eq (fun _ => ?_) (fun _ => ?_) | with_reducible refine condP_ne (fun _ => ?_) (fun _ => ?_) | with_reducible refine condP_not (condP_dec (fun _ => ?_) (fun _ => ?_)) | with_reducible refine condP_not (condP_eq (fun _ => ?_) (fun _ => ?_)) | with_reducible refine condP_not (condP_intro (fun _ => ?_) (fun _ => ?_)) | with_reducible refine condP_intro (fun _ => ?_) (fun _ => ?_))
  all_goals first | exact k1 | exact k2 | rfl | exact dyes (by omega) | exact dno (by omega) | (refine congrArg D.bool ?_; simp; omega) | (exfalso; simp_all; omega) | (exfalso; simp_all; done) | (refine congrArg D.bool ?_; simpa using h) | skip

set_option maxRecDepth 100000 in
set_option maxHeartbeats 1000000 in
theorem chk13c (x : Rs) (n : Int) (h : x.e = -1 ∨ (n ≤ x.e ∧ x.e ≤ 1099511627776)) (k2 : FnOK Try.prog 19 [.d (rsD x)] [] (.d (.int .i64 n)) []) (k1 : FnOK Try.prog 32 [.d (rqD x.s)] [] (.d (.int .i64 0)) []) : FnOK Try.prog 13 ([.d (rsD x)]) ([]) (.d (.int .i64 0)) ([]) := by
  refine fnOK_wp (p := (FnOK Try.prog (32 : Nat) [AV.d (D.agg [D.int IntKind.i64 x.s.b, D.str x.s.r, D.sl (List.map ptD x.s.p)])] [] (AV.d (D.int IntKind.i64 (0 : Int))) []) ∧ (condP (x.e != (-1 : Int)) (condP (decide (x.e < n)) ((D.bool (x.e != (-1 : Int)) = D.bool true) ∧ ((FnOK Try.prog (19 : Nat) [AV.d (D.agg [D.int IntKind.i64 x.s.b, D.str x.s.r, D.sl (List.map ptD x.s.p), D.int IntKind.i64 x.e])] [] (AV.d (D.int IntKind.i64 n)) []) ∧ ((D.bool (decide (x.e < n)) = D.bool true) ∧ ((AV.d (D.int IntKind.i64 (8 : Int)) = AV.d (D.int IntKind.i64 (0 : Int))) ∧ (True))))) ((D.bool (x.e != (-1 : Int)) = D.bool true) ∧ ((FnOK Try.prog (19 : Nat) [AV.d (D.agg [D.int IntKind.i64 x.s.b, D.str x.s.r, D.sl (List.map ptD x.s.p), D.int IntKind.i64 x.e])] [] (AV.d (D.int IntKind.i64 n)) []) ∧ ((D.bool (decide (x.e < n)) = D.bool false) ∧ (condP (decide (x.e > (1099511627776 : Int))) ((AV.d (D.int IntKind.i64 (8 : Int)) = AV.d (D.int IntKind.i64 (0 : Int))) ∧ (True)) ((AV.d (D.int IntKind.i64 (0 : Int)) = AV.d (D.int IntKind.i64 (0 : Int))) ∧ (True))))))) ((D.bool (x.e != (-1 : Int)) = D.bool false) ∧ ((AV.d (D.int IntKind.i64 (0 : Int)) = AV.d (D.int IntKind.i64 (0 : Int))) ∧ (True))))) (h := {G := [(32, gAns (.d (.int .i64 0))), (19, gAns (.d (.int .i64 n)))]}) (subs := []) (ws := []) (ρ := []) (by kernel_rfl) ?_
  repeat' (first | with_reducible exact True.intro | with_reducible refine And.intro ?_ ?_ | with_reducible refine condP_dec (fun _ => ?_) (fun _ => ?_) | with_reducible refine condP_eq (fun _ => ?_) (fun _ => ?_) | with_reducible refine condP_ne (fun _ => ?_) (fun _ => ?_) | with_reducible refine condP_not (condP_dec (fun _ => ?_) (fun _ => ?_)) | with_reducible refine condP_not (condP_eq (fun _ => ?_) (fun _ => ?_)) | with_reducible refine condP_not (condP_intro (fun _ => ?_) (fun _ => ?_)) | with_reducible refine condP_intro (fun _ => ?_) (fun _ => ?_))
  all_goals first | exact k1 | exact k2 | rfl | exact dyes (by omega) | exact dno (by omega) | (refine congrArg D.bool ?_; simp; omega) | (exfalso; simp_all; omega) | (exfalso; simp_all; done) | (refine congrArg D.bool ?_; simpa using h) | skip

set_option maxRecDepth 100000 in
set_option maxHeartbeats 1000000 in
theorem chk14a (x : Rs) (c : Int) (h : c ≠ 0) (k2 : True) (k1 : FnOK Try.prog 33 [.d (rqD x.s)] [] (.d (.int .i64 c)) []) : FnOK Try.prog 14 ([.d (rsD x)]) ([]) (.d (.int .i64 c)) ([]) := by
  refine fnOK_wp (p := (FnOK Try.prog (33 : Nat) [AV.d (D.agg [D.int IntKind.i64 x.s.b, D.str x.s.r, D.sl (List.map ptD x.s.p)])] [] (AV.d (D.int IntKind.i64 c)) []) ∧ ((D.bool (c != (0 : Int)) = D.bool true) ∧ ((AV.d (D.int IntKind.i64 c) = AV.d (D.int IntKind.i64 c)) ∧ (True)))) (h := {G := [(33, gAns (.d (.int .i64 c)))], H := [(2, [(1, .val (.bool true))])]}) (subs := []) (ws := []) (ρ := []) (by kernel_rfl) ?_
  repeat' (first | with_reducible exact True.intro | with_reducible refine And.intro ?_ ?_ | with_reducible refine condP_dec (fun _ => ?_) (fun _ => ?_) | with_reducible refine condP_eq (fun _ => ?_) (fun _ => ?_) | with_reducible refine condP_ne (fun _ => ?_) (fun _ => ?_) | with_reducible refine condP_not (condP_dec (fun _ => ?_) (fun _ => ?_)) | with_reducible refine condP_not (condP_eq (fun _ => ?_) (fun _ => ?_)) | with_reducible refine condP_not (condP_intro (fun _ => ?_) (fun _ => ?_)) | with_reducible refine condP_intro (fun _ => ?_) (fun _ => ?_))
  all_goals first | exact k1 | exact k2 | rfl | exact dyes (by omega) | exact dno (by omega) | (refine congrArg D.bool ?_; simp; omega) | (exfalso; simp_all; omega) | (exfalso; simp_all; done) | (refine congrArg D.bool ?_; simpa using h) | skip

set_option maxRecDepth 100000 in
set_option maxHeartbeats 1000000 in
theorem chk14b (x : Rs) (n : Int) (h : x.e ≠ -1 ∧ (x.e < n ∨ x.e > 1099511627776)) (k2 : FnOK Try.prog 20 [.d (rsD x)] [] (.d (.int .i64 n)) []) (k1 : FnOK Try.prog 33 [.d (rqD x.s)] [] (.d (.int .i64 0)) []) : FnOK Try.prog 14 ([.d (rsD x)]) ([]) (.d (.int .i64 8)) ([]) := by
  refine fnOK_wp (p := (FnOK Try.prog (33 : Nat) [AV.d (D.agg [D.int IntKind.i64 x.s.b, D.str x.s.r, D.sl (List.map ptD x.s.p)])] [] (AV.d (D.int IntKind.i64 (0 : Int))) []) ∧ (condP (decide (x.e < n)) ((D.bool (x.e != (-1 : Int)) = D.bool true) ∧ ((D.bool true = D.bool true) ∧ ((FnOK Try.prog (20 : Nat) [AV.d (D.agg [D.int IntKind.i64 x.s.b, D.str x.s.r, D.sl (List.map ptD x.s.p), D.int IntKind.i64 x.e])] [] (AV.d (D.int IntKind.i64 n)) []) ∧ ((D.bool (decide (x.e < n)) = D.bool true) ∧ ((AV.d (D.int IntKind.i64 (8 : Int)) = AV.d (D.int IntKind.i64 (8 : Int))) ∧ (True)))))) ((D.bool (x.e != (-1 : Int)) = D.bool true) ∧ ((D.bool true = D.bool true) ∧ ((FnOK Try.prog (20 : Nat) [AV.d (D.agg [D.int IntKind.i64 x.s.b, D.str x.s.r, D.sl (List.map ptD x.s.p), D.int IntKind.i64 x.e])] [] (AV.d (D.int IntKind.i64 n)) []) ∧ ((D.bool (decide (x.e < n)) = D.bool false) ∧ (condP (decide (x.e > (1099511627776 : Int))) ((AV.d (D.int IntKind.i64 (8 : Int)) = AV.d (D.int IntKind.i64 (8 : Int))) ∧ (True)) ((AV.d (D.int IntKind.i64 (0 : Int)) = AV.d (D.int IntKind.i64 (8 : Int))) ∧ (True))))))))) (h := {G := [(33, gAns (.d (.int .i64 0))), (20, gAns (.d (.int .i64 n)))], H := [(4, [(2, .val (.bool true))])]}) (subs := []) (ws := []) (ρ := []) (by kernel_rfl) ?_
  repeat' (first | with_reducible exact True.intro | with_reducible refine And.intro ?_ ?_ | with_reducible refine condP_dec (fun _ => ?_) (fun _ => ?_) | with_reducible refine condP_eq (fun _ => ?_) (fun _ => ?_) | with_reducible refine condP_ne (fun _ => ?_) (fun _ => ?_) | with_reducible refine condP_not (condP_dec (fun _ => ?_) (fun _ => ?_)) | with_reducible refine condP_not (condP_eq (fun _ => ?_) (fun _ => ?_)) | with_reducible refine condP_not (condP_intro (fun _ => ?_) (fun _ => ?_)) | with_reducible refine condP_intro (fun _ => ?_) (fun _ => ?_))
  all_goals first | exact k1 | exact k2 | rfl | exact dyes (by omega) | exact dno (by omega) | (refine congrArg D.bool ?_; simp; omega) | (exfalso; simp_all; omega) | (exfalso; simp_all; done) | (refine congrArg D.bool ?_; simpa using h) | skip

set_option maxRecDepth 100000 in
set_option maxHeartbeats 1000000 in
theorem chk14c (x : Rs) (n : Int) (h : x.e = -1 ∨ (n ≤ x.e ∧ x.e ≤ 1099511627776)) (k2 : FnOK Try.prog 20 [.d (rsD x)] [] (.d (.int .i64 n)) []) (k1 : FnOK Try.prog 33 [.d (rqD x.s)] [] (.d (.int .i64 0)) []) : FnOK Try.prog 14 ([.d (rsD x)]) ([]) (.d (.int .i64 0)) ([]) := by
  refine fnOK_wp (p := (FnOK Try.prog (33 : Nat) [AV.d (D.agg [D.int IntKind.i64 x.s.b, D.str x.s.r, D.sl (List.map ptD x.s.p)])] [] (AV.d (D.int IntKind.i64 (0 : Int))) []) ∧ (condP (x.e != (-1 : Int)) (condP (decide (x.e < n)) ((D.bool (x.e != (-1 : Int)) = D.bool true) ∧ ((FnOK Try.prog (20 : Nat) [AV.d (D.agg [D.int IntKind.i64 x.s.b, D.str x.s.r, D.sl (List.map ptD x.s.p), D.int IntKind.i64 x.e])] [] (AV.d (D.int IntKind.i64 n)) []) ∧ ((D.bool (decide (x.e < n)) = D.bool true) ∧ ((AV.d (D.int IntKind.i64 (8 : Int)) = AV.d (D.int IntKind.i64 (0 : Int))) ∧ (True))))) ((D.bool (x.e != (-1 : Int)) = D.bool true) ∧ ((FnOK Try.prog (20 : Nat) [AV.d (D.agg [D.int IntKind.i64 x.s.b, D.str x.s.r, D.sl (List.map ptD x.s.p), D.int IntKind.i64 x.e])] [] (AV.d (D.int IntKind.i64 n)) []) ∧ ((D.bool (decide (x.e < n)) = D.bool false) ∧ (condP (decide (x.e > (1099511627776 : Int))) ((AV.d (D.int IntKind.i64 (8 : Int)) = AV.d (D.int IntKind.i64 (0 : Int))) ∧ (True)) ((AV.d (D.int IntKind.i64 (0 : Int)) = AV.d (D.int IntKind.i64 (0 : Int))) ∧ (True))))))) ((D.bool (x.e != (-1 : Int)) = D.bool false) ∧ ((AV.d (D.int IntKind.i64 (0 : Int)) = AV.d (D.int IntKind.i64 (0 : Int))) ∧ (True))))) (h := {G := [(33, gAns (.d (.int .i64 0))), (20, gAns (.d (.int .i64 n)))]}) (subs := []) (ws := []) (ρ := []) (by kernel_rfl) ?_
  repeat' (first | with_reducible exact True.intro | with_reducible refine And.intro ?_ ?_ | with_reducible refine condP_dec (fun _ => ?_) (fun _ => ?_) | with_reducible refine condP_eq (fun _ => ?_) (fun _ => ?_) | with_reducible refine condP_ne (fun _ => ?_) (fun _ => ?_) | with_reducible refine condP_not (condP_dec (fun _ => ?_) (fun _ => ?_)) | with_reducible refine condP_not (condP_eq (fun _ => ?_) (fun _ => ?_)) | with_reducible refine condP_not (condP_intro (fun _ => ?_) (fun _ => ?_)) | with_reducible refine condP_intro (fun _ => ?_) (fun _ => ?_))
  all_goals first | exact k1 | exact k2 | rfl | exact dyes (by omega) | exact dno (by omega) | (refine congrArg D.bool ?_; simp; omega) | (exfalso; simp_all; omega) | (exfalso; simp_all; done) | (refine congrArg D.bool ?_; simpa using h) | skip

theorem chk13 {x : Rs} (hr : Rr x) (hl : x.s.p.length < 1000000) : FnOK Try.prog 13 [.d (rsD x)] [] (.d (.int .i64 (sChk x))) [] := by
  have k1 := chk17 x.s hr.s
  unfold sChk
  by_cases h : rChk x.s ≠ 0
  · rw [if_pos h]; exact chk13a x _ h trivial k1
  · rw [if_neg h]
    have h0 : rChk x.s = 0 := by omega
    rw [h0] at k1
    have k2 := hi19 (x := x) (ok_iff.1 h0) hl
    by_cases g : sEnd x = true
    · rw [if_pos g]; exact chk13b x _ (of_decide_eq_true g) k2 k1
    · rw [if_neg g]
      have g := of_decide_eq_false (Bool.eq_false_iff.2 g)
      exact chk13c x (sHigh x) (by omega) k2 k1
theorem chk14' {x : Rs} (hr : Rr x) (hl : x.s.p.length < 1000000) : FnOK Try.prog 14 [.d (rsD x)] [] (.d (.int .i64 (sChk x))) [] := by
  have k1 := chk18 x.s hr.s
  unfold sChk
  by_cases h : rChk x.s ≠ 0
  · rw [if_pos h]; exact chk14a x _ h trivial k1
  · rw [if_neg h]
    have h0 : rChk x.s = 0 := by omega
    rw [h0] at k1
    have k2 := hi20 (s := x.s) (ok_iff.1 h0) hl x.e
    by_cases g : sEnd x = true
    · rw [if_pos g]; exact chk14b x _ (of_decide_eq_true g) k2 k1
    · rw [if_neg g]
      have g := of_decide_eq_false (Bool.eq_false_iff.2 g)
      exact chk14c x (sHigh x) (by omega) k2 k1
/-! ### Closed -/
set_option maxRecDepth 100000 in
set_option maxHeartbeats 1000000 in
theorem closed27 (x : Rs) (to : Int) (fin q : Bool) (hq : sClosed x to fin = q) (k1 : FnOK Try.prog 35 [.d (rsD x)] [] (.d (.int .i64 (sHigh x))) []) : FnOK Try.prog 27 ([.d (rsD x), .d (.int .i64 to), .d (.bool fin)]) ([]) (.d (.bool q)) ([]) := by
  refine fnOK_wp (p := (FnOK Try.prog (34 : Nat) [AV.d (D.agg [D.int IntKind.i64 x.s.b, D.str x.s.r, D.sl (List.map ptD x.s.p), D.int IntKind.i64 x.e])] [] (AV.d (D.bool (decide (x.e ≥ (0 : Int))))) []) ∧ (condP (decide (x.e ≥ (0 : Int))) (condP (decide (to > x.e)) ((D.bool (decide (to > x.e)) = D.bool true) ∧ ((AV.d (D.bool true) = AV.d (D.bool q)) ∧ (True))) (condP (fin) ((D.bool (decide (to > x.e)) = D.bool false) ∧ ((D.bool fin = D.bool true) ∧ ((AV.d (D.bool (decide (to < x.e))) = AV.d (D.bool q)) ∧ (True)))) ((D.bool (decide (to > x.e)) = D.bool false) ∧ ((D.bool fin = D.bool false) ∧ ((AV.d (D.bool false) = AV.d (D.bool q)) ∧ (True)))))) (condP (fin) ((D.bool fin = D.bool true) ∧ ((FnOK Try.prog (35 : Nat) [AV.d (D.agg [D.int IntKind.i64 x.s.b, D.str x.s.r, D.sl (List.map ptD x.s.p), D.int IntKind.i64 x.e])] [] (AV.d (D.int IntKind.i64 (sHigh x))) []) ∧ ((AV.d (D.bool (decide (to < sHigh x))) = AV.d (D.bool q)) ∧ (True)))) ((D.bool fin = D.bool false) ∧ ((AV.d (D.bool false) = AV.d (D.bool q)) ∧ (True)))))) (h := {G := [(34, gAns (.d (.bool (decide (x.e ≥ 0))))), (35, gAns (.d (.int .i64 (sHigh x))))]}) (subs := []) (ws := []) (ρ := []) (by kernel_rfl) ?_
  have k2 := known34 x
  subst hq
  unfold sClosed
  repeat' (first | with_reducible exact True.intro | with_reducible refine And.intro ?_ ?_ | with_reducible refine condP_dec (fun _ => ?_) (fun _ => ?_) | with_reducible refine condP_eq (fun _ => ?_) (fun _ => ?_) | with_reducible refine condP_ne (fun _ => ?_) (fun _ => ?_) | with_reducible refine condP_not (condP_dec (fun _ => ?_) (fun _ => ?_)) | with_reducible refine condP_not (condP_eq (fun _ => ?_) (fun _ => ?_)) | with_reducible refine condP_not (condP_intro (fun _ => ?_) (fun _ => ?_)) | with_reducible refine condP_intro (fun _ => ?_) (fun _ => ?_))
  all_goals first | exact k1 | exact k2 | rfl | (refine congrArg (fun z => AV.d (D.bool z)) ?_; rw [if_pos (by assumption)]; simp_all; done) | (refine congrArg (fun z => AV.d (D.bool z)) ?_; rw [if_pos (by assumption), decide_eq_false (p := to > x.e) (by assumption)]; simp [*]; done) | (refine congrArg (fun z => AV.d (D.bool z)) ?_; rw [if_neg (by assumption)]; simp_all; done) | (refine congrArg D.bool ?_; simp_all; done) | skip

end Go.Proofs.Ytfacpafkldmkcaa
