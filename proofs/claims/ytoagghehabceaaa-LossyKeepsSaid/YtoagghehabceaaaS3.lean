/-
laws 31: what the program does to a state.
-/
import Derived.Test.YtoagghehabceaaaS2
set_option linter.unusedSimpArgs false
set_option linter.unusedVariables false
namespace Go.Proofs.Ytoagghehabceaaa
open Sx Go.RowKit

def gChk25 (x : Ls) : List D → Option (AV × List Ob) := fun _ => some (.d (.int .i64 (lChk x)), [])
set_option maxRecDepth 100000 in
set_option maxHeartbeats 1000000 in
theorem there32 (x : Ls) (hl : x.l.length < 1073741824) (n : Int) : FnOK Try.prog 32 ([.d (lsD x), .d (.int .i64 n)]) ([]) (.d (.bool (lThere x n))) ([]) := by
  refine fnOK_wp (p := condP (decide (n ≥ (0 : Int))) (condP (decide (n < (↑(List.map pkD x.l).length : Int))) ((D.bool (decide (n ≥ (0 : Int))) = D.bool true) ∧ ((D.bool (decide (n < (↑(List.map pkD x.l).length : Int))) = D.bool true) ∧ ((FnOK Try.prog (25 : Nat) [AV.d (D.agg [D.sl (List.map pkD x.l), D.int IntKind.i64 x.s, D.int IntKind.i64 x.c])] [] (AV.d (D.int IntKind.i64 (lChk x))) []) ∧ ((AV.d (D.bool (lChk x == (0 : Int))) = AV.d (D.bool (lThere x n))) ∧ (True))))) ((D.bool (decide (n ≥ (0 : Int))) = D.bool true) ∧ ((D.bool (decide (n < (↑(List.map pkD x.l).length : Int))) = D.bool false) ∧ ((AV.d (D.bool false) = AV.d (D.bool (lThere x n))) ∧ (True))))) ((D.bool (decide (n ≥ (0 : Int))) = D.bool false) ∧ ((D.bool false = D.bool false) ∧ ((AV.d (D.bool false) = AV.d (D.bool (lThere x n))) ∧ (True))))) (h := {G := [(25, gChk25 x)]}) (subs := []) (ws := []) (ρ := []) (by kernel_rfl) ?_
  have h1 := chk25 x hl
  simp only [List.length_map]
  unfold lThere
  repeat' (first | with_reducible exact True.intro | with_reducible refine And.intro ?_ ?_ | with_reducible refine condP_dec (fun _ => ?_) (fun _ => ?_) | with_reducible refine condP_eq (fun _ => ?_) (fun _ => ?_) | with_reducible refine condP_ne (fun _ => ?_) (fun _ => ?_) | with_reducible refine condP_not (condP_dec (fun _ => ?_) (fun _ => ?_)) | with_reducible refine condP_not (condP_eq (fun _ => ?_) (fun _ => ?_)) | with_reducible refine condP_not (condP_intro (fun _ => ?_) (fun _ => ?_)) | with_reducible refine condP_intro (fun _ => ?_) (fun _ => ?_))
  all_goals first | exact h1 | rfl | exact dyes (by omega) | exact dno (by omega) | skip
  all_goals first | (refine congrArg (fun z => AV.d (D.bool z)) ?_; rw [Bool.eq_iff_iff]; simp; omega) | (refine congrArg D.bool ?_; rw [Bool.eq_iff_iff]; simp; omega) | skip

set_option maxRecDepth 100000 in
set_option maxHeartbeats 1000000 in
theorem there33 (x : Ls) (hl : x.l.length < 1073741824) (n : Int) : FnOK Try.prog 33 ([.d (lsD x), .d (.int .i64 n)]) ([]) (.d (.bool (lThere x n))) ([]) := by
  refine fnOK_wp (p := condP (lChk x == (0 : Int)) (condP (decide (n ≥ (0 : Int))) ((FnOK Try.prog (26 : Nat) [AV.d (D.agg [D.sl (List.map pkD x.l), D.int IntKind.i64 x.s, D.int IntKind.i64 x.c])] [] (AV.d (D.int IntKind.i64 (lChk x))) []) ∧ ((D.bool (lChk x == (0 : Int)) = D.bool true) ∧ ((D.bool (decide (n ≥ (0 : Int))) = D.bool true) ∧ ((AV.d (D.bool (decide (n < (↑(List.map pkD x.l).length : Int)))) = AV.d (D.bool (lThere x n))) ∧ (True))))) ((FnOK Try.prog (26 : Nat) [AV.d (D.agg [D.sl (List.map pkD x.l), D.int IntKind.i64 x.s, D.int IntKind.i64 x.c])] [] (AV.d (D.int IntKind.i64 (lChk x))) []) ∧ ((D.bool (lChk x == (0 : Int)) = D.bool true) ∧ ((D.bool (decide (n ≥ (0 : Int))) = D.bool false) ∧ ((AV.d (D.bool false) = AV.d (D.bool (lThere x n))) ∧ (True)))))) ((FnOK Try.prog (26 : Nat) [AV.d (D.agg [D.sl (List.map pkD x.l), D.int IntKind.i64 x.s, D.int IntKind.i64 x.c])] [] (AV.d (D.int IntKind.i64 (lChk x))) []) ∧ ((D.bool (lChk x == (0 : Int)) = D.bool false) ∧ ((D.bool false = D.bool false) ∧ ((AV.d (D.bool false) = AV.d (D.bool (lThere x n))) ∧ (True)))))) (h := {G := [(26, gChk25 x)]}) (subs := []) (ws := []) (ρ := []) (by kernel_rfl) ?_
  have h1 := chk26 x hl
  simp only [List.length_map]
  unfold lThere
  repeat' (first | with_reducible exact True.intro | with_reducible refine And.intro ?_ ?_ | with_reducible refine condP_dec (fun _ => ?_) (fun _ => ?_) | with_reducible refine condP_eq (fun _ => ?_) (fun _ => ?_) | with_reducible refine condP_ne (fun _ => ?_) (fun _ => ?_) | with_reducible refine condP_not (condP_dec (fun _ => ?_) (fun _ => ?_)) | with_reducible refine condP_not (condP_eq (fun _ => ?_) (fun _ => ?_)) | with_reducible refine condP_not (condP_intro (fun _ => ?_) (fun _ => ?_)) | with_reducible refine condP_intro (fun _ => ?_) (fun _ => ?_))
  all_goals first | exact h1 | rfl | exact dyes (by omega) | exact dno (by omega) | skip
  all_goals first | (refine congrArg (fun z => AV.d (D.bool z)) ?_; rw [Bool.eq_iff_iff]; simp; omega) | (refine congrArg D.bool ?_; rw [Bool.eq_iff_iff]; simp; omega) | skip

theorem there_iff {x : Ls} {n : Int} : lThere x n = true ↔ lChk x = 0 ∧ 0 ≤ n ∧ n < x.l.length := by unfold lThere; exact decide_eq_true_iff
theorem there_in {x : Ls} {n : Int} (h : lThere x n = true) : ∃ (m : Nat) (y : Pk), n = m ∧ x.l[m]? = some y ∧ lTakeP x n = y := by
  obtain ⟨-, h1, h2⟩ := there_iff.1 h
  obtain ⟨m, rfl⟩ := Int.eq_ofNat_of_zero_le h1
  have hm : m < x.l.length := by omega
  refine ⟨m, x.l[m], rfl, get_of hm, ?_⟩
  unfold lTakeP
  rw [if_pos h, Int.toNat_natCast, get_of hm]; rfl
/-! ### Sending -/
theorem min_c {c : Int} (h : c ≤ 1099511627776) : min (c + 0) 1099511627776 = c := by omega
set_option maxRecDepth 100000 in
set_option maxHeartbeats 1000000 in
theorem send9y (x : Ls) (p : Pk) (h : lSendB x p = true) (hw : lWrong p = false) (hc : lChk x = 0) : FnOK Try.prog 9 ([.d (lsD x), .d (pkD p)]) ([]) (.tup [.d (lsD ⟨x.l ++ [p], x.s + 1, x.c⟩), .d (.bool true)]) ([]) := by
  refine fnOK_wp (p := (FnOK Try.prog (28 : Nat) [AV.d (D.agg [D.int IntKind.i64 p.p, D.int IntKind.i64 p.t, D.str p.d])] [] (AV.d (D.bool false)) []) ∧ ((D.bool false = D.bool false) ∧ ((FnOK Try.prog (25 : Nat) [AV.d (D.agg [D.sl (List.map pkD x.l), D.int IntKind.i64 x.s, D.int IntKind.i64 x.c])] [] (AV.d (D.int IntKind.i64 (0 : Int))) []) ∧ ((D.bool false = D.bool false) ∧ ((D.bool ((↑(List.map pkD x.l).length : Int) == (200 : Int)) = D.bool false) ∧ ((D.bool false = D.bool false) ∧ ((D.bool (x.s == (1099511627776 : Int)) = D.bool false) ∧ ((FnOK Try.prog (30 : Nat) [AV.d (D.sl (List.map pkD x.l))] [] (AV.own (0 : Nat) (3 : Nat)) [Ob.row (3 : Nat) (List.map pkD x.l)]) ∧ ((((List.map pkD x.l).length + [D.agg (List.take (3 : Nat) [D.int IntKind.i64 p.p, D.int IntKind.i64 p.t, D.str p.d])].length) * (32 : Nat) ≤ (140737488355328 : Nat)) ∧ ((∀ (e : D), e ∈ chunk (3 : Nat) (1 : Nat) [D.int IntKind.i64 p.p, D.int IntKind.i64 p.t, D.str p.d] → e.cells.length = (3 : Nat)) ∧ ((FnOK Try.prog (29 : Nat) [AV.d (D.agg [D.sl (List.map pkD x.l), D.int IntKind.i64 x.s, D.int IntKind.i64 x.c]), AV.d (D.int IntKind.i64 (0 : Int)), AV.own (0 : Nat) (3 : Nat)] [Ob.row (3 : Nat) (List.map pkD x.l ++ [D.agg (List.take (3 : Nat) [D.int IntKind.i64 p.p, D.int IntKind.i64 p.t, D.str p.d])])] (AV.agg [AV.own (1 : Nat) (3 : Nat), AV.d (D.int IntKind.i64 x.s), AV.d (D.int IntKind.i64 x.c)]) [Ob.row (3 : Nat) (List.map pkD (x.l ++ [p])), Ob.row (3 : Nat) (List.map pkD (x.l ++ [p]))]) ∧ ((AV.tup [AV.d (D.agg [D.sl (List.map pkD (x.l ++ [p])), D.int IntKind.i64 (IntKind.i64.wrap (x.s + (1 : Int))), D.int IntKind.i64 x.c]), AV.d (D.bool true)] = AV.tup [AV.d (D.agg [D.sl (List.map pkD (Ls.mk (x.l ++ [p]) (x.s + (1 : Int)) x.c).l), D.int IntKind.i64 (Ls.mk (x.l ++ [p]) (x.s + (1 : Int)) x.c).s, D.int IntKind.i64 (Ls.mk (x.l ++ [p]) (x.s + (1 : Int)) x.c).c]), AV.d (D.bool true)]) ∧ (True))))))))))))) (h := {G := [(28, fun _ => some (.d (.bool false), [])), (25, fun _ => some (.d (.int .i64 0), []))], H := [(1, [(11, .val (.bool false)), (16, .val (.bool false))]), (3, [(3, .call [] (.own 0 3) [.row 3 (x.l.map pkD)]), (7, .call [1256] (.agg [.own 1 3, .d (.int .i64 x.s), .d (.int .i64 x.c)]) [.row 3 ((x.l ++ [p]).map pkD), .row 3 ((x.l ++ [p]).map pkD)])])]}) (subs := []) (ws := []) (ρ := []) (by kernel_rfl) ?_
  have h0 : lChk x = 0 ∧ lWrong p = false ∧ x.l.length < 200 ∧ x.s < 1099511627776 := of_decide_eq_true h
  obtain ⟨-, -, h1, h2⟩ := h0
  obtain ⟨-, -, c3, c4, c5, c6⟩ := chk_zero.1 hc
  have k1 := wrong28 p
  have k2 := chk25 x (by omega)
  rw [hw] at k1
  rw [hc] at k2
  have hl : (x.l ++ [p]).length < 1073741824 := by simp; omega
  have k3 := with29o x 0 (x.l ++ [p]) hl (by rw [IntKind.wrap_i64]; omega)
  rw [min_c c6] at k3
  have k4 := clone30 x.l (by omega)
  have hs : IntKind.i64.wrap (x.s + 1) = x.s + 1 := by rw [IntKind.wrap_i64]; omega
  simp only [List.length_map, hs]
  rw [List.map_append] at *
  repeat' (first | with_reducible exact True.intro | with_reducible refine And.intro ?_ ?_ | with_reducible refine condP_dec (fun _ => ?_) (fun _ => ?_) | with_reducible refine condP_eq (fun _ => ?_) (fun _ => ?_) | with_reducible refine condP_ne (fun _ => ?_) (fun _ => ?_) | with_reducible refine condP_not (condP_dec (fun _ => ?_) (fun _ => ?_)) | with_reducible refine condP_not (condP_eq (fun _ => ?_) (fun _ => ?_)) | with_reducible refine condP_not (condP_intro (fun _ => ?_) (fun _ => ?_)) | with_reducible refine condP_intro (fun _ => ?_) (fun _ => ?_))
  all_goals first | exact k1 | exact k2 | exact k3 | exact k4 | rfl | (refine congrArg D.bool ?_; simp; omega) | (simp; omega) | (simp [chunk, pkD, D.cells]; done) | skip

set_option maxRecDepth 100000 in
set_option maxHeartbeats 1000000 in
theorem send9n (x : Ls) (hl : x.l.length < 1073741824) (p : Pk) (h : lSendB x p = false) : FnOK Try.prog 9 ([.d (lsD x), .d (pkD p)]) ([]) (.tup [.d (lsD x), .d (.bool false)]) ([]) := by
  refine fnOK_wp (p := condP (lWrong p) ((FnOK Try.prog (28 : Nat) [AV.d (D.agg [D.int IntKind.i64 p.p, D.int IntKind.i64 p.t, D.str p.d])] [] (AV.d (D.bool (lWrong p))) []) ∧ ((D.bool (lWrong p) = D.bool true) ∧ ((D.bool true = D.bool true) ∧ ((D.bool true = D.bool true) ∧ ((AV.tup [AV.d (D.agg [D.sl (List.map pkD x.l), D.int IntKind.i64 x.s, D.int IntKind.i64 x.c]), AV.d (D.bool false)] = AV.tup [AV.d (D.agg [D.sl (List.map pkD x.l), D.int IntKind.i64 x.s, D.int IntKind.i64 x.c]), AV.d (D.bool false)]) ∧ (True)))))) (condP (lChk x != (0 : Int)) ((FnOK Try.prog (28 : Nat) [AV.d (D.agg [D.int IntKind.i64 p.p, D.int IntKind.i64 p.t, D.str p.d])] [] (AV.d (D.bool (lWrong p))) []) ∧ ((D.bool (lWrong p) = D.bool false) ∧ ((FnOK Try.prog (25 : Nat) [AV.d (D.agg [D.sl (List.map pkD x.l), D.int IntKind.i64 x.s, D.int IntKind.i64 x.c])] [] (AV.d (D.int IntKind.i64 (lChk x))) []) ∧ ((D.bool (lChk x != (0 : Int)) = D.bool true) ∧ ((D.bool true = D.bool true) ∧ ((AV.tup [AV.d (D.agg [D.sl (List.map pkD x.l), D.int IntKind.i64 x.s, D.int IntKind.i64 x.c]), AV.d (D.bool false)] = AV.tup [AV.d (D.agg [D.sl (List.map pkD x.l), D.int IntKind.i64 x.s, D.int IntKind.i64 x.c]), AV.d (D.bool false)]) ∧ (True))))))) (condP ((↑(List.map pkD x.l).length : Int) == (200 : Int)) ((FnOK Try.prog (28 : Nat) [AV.d (D.agg [D.int IntKind.i64 p.p, D.int IntKind.i64 p.t, D.str p.d])] [] (AV.d (D.bool (lWrong p))) []) ∧ ((D.bool (lWrong p) = D.bool false) ∧ ((FnOK Try.prog (25 : Nat) [AV.d (D.agg [D.sl (List.map pkD x.l), D.int IntKind.i64 x.s, D.int IntKind.i64 x.c])] [] (AV.d (D.int IntKind.i64 (lChk x))) []) ∧ ((D.bool (lChk x != (0 : Int)) = D.bool false) ∧ ((D.bool ((↑(List.map pkD x.l).length : Int) == (200 : Int)) = D.bool true) ∧ ((AV.tup [AV.d (D.agg [D.sl (List.map pkD x.l), D.int IntKind.i64 x.s, D.int IntKind.i64 x.c]), AV.d (D.bool false)] = AV.tup [AV.d (D.agg [D.sl (List.map pkD x.l), D.int IntKind.i64 x.s, D.int IntKind.i64 x.c]), AV.d (D.bool false)]) ∧ (True))))))) ((FnOK Try.prog (28 : Nat) [AV.d (D.agg [D.int IntKind.i64 p.p, D.int IntKind.i64 p.t, D.str p.d])] [] (AV.d (D.bool (lWrong p))) []) ∧ ((D.bool (lWrong p) = D.bool false) ∧ ((FnOK Try.prog (25 : Nat) [AV.d (D.agg [D.sl (List.map pkD x.l), D.int IntKind.i64 x.s, D.int IntKind.i64 x.c])] [] (AV.d (D.int IntKind.i64 (lChk x))) []) ∧ ((D.bool (lChk x != (0 : Int)) = D.bool false) ∧ ((D.bool ((↑(List.map pkD x.l).length : Int) == (200 : Int)) = D.bool false) ∧ (condP (x.s == (1099511627776 : Int)) ((AV.tup [AV.d (D.agg [D.sl (List.map pkD x.l), D.int IntKind.i64 x.s, D.int IntKind.i64 x.c]), AV.d (D.bool false)] = AV.tup [AV.d (D.agg [D.sl (List.map pkD x.l), D.int IntKind.i64 x.s, D.int IntKind.i64 x.c]), AV.d (D.bool false)]) ∧ (True)) (False)))))))))) (h := {G := [(28, fun _ => some (.d (.bool (lWrong p)), [])), (25, gChk25 x)]}) (subs := []) (ws := []) (ρ := []) (by kernel_rfl) ?_
  have h0 : ¬(lChk x = 0 ∧ lWrong p = false ∧ x.l.length < 200 ∧ x.s < 1099511627776) := of_decide_eq_false h
  have k1 := wrong28 p
  have k2 := chk25 x hl
  simp only [List.length_map]
  repeat' (first | with_reducible exact True.intro | with_reducible refine And.intro ?_ ?_ | with_reducible refine condP_dec (fun _ => ?_) (fun _ => ?_) | with_reducible refine condP_eq (fun _ => ?_) (fun _ => ?_) | with_reducible refine condP_ne (fun _ => ?_) (fun _ => ?_) | with_reducible refine condP_not (condP_dec (fun _ => ?_) (fun _ => ?_)) | with_reducible refine condP_not (condP_eq (fun _ => ?_) (fun _ => ?_)) | with_reducible refine condP_not (condP_intro (fun _ => ?_) (fun _ => ?_)) | with_reducible refine condP_intro (fun _ => ?_) (fun _ => ?_))
  all_goals first | exact k1 | exact k2 | rfl | (simp_all; done) | (exfalso; simp_all; done) | (exfalso; obtain ⟨q1, -, -, q4, -, -⟩ := chk_zero.1 (by assumption); refine h0 ⟨by assumption, by assumption, ?_, ?_⟩ <;> omega) | skip

theorem send9 (x : Ls) (hl : x.l.length < 1073741824) (p : Pk) : FnOK Try.prog 9 [.d (lsD x), .d (pkD p)] [] (.tup [.d (lsD (lSend x p)), .d (.bool (lSendB x p))]) [] := by
  unfold lSend
  cases h : lSendB x p
  · exact send9n x hl p h
  · have h0 : lChk x = 0 ∧ lWrong p = false ∧ x.l.length < 200 ∧ x.s < 1099511627776 := of_decide_eq_true h
    exact send9y x p h h0.2.1 h0.1
/-! ### Dropping -/
set_option maxRecDepth 100000 in
set_option maxHeartbeats 1000000 in
theorem drop13y (x : Ls) (n : Nat) (y : Pk) (hn : x.l[n]? = some y) (ht : lThere x n = true) (hc : lChk x = 0) : FnOK Try.prog 13 ([.d (lsD x), .d (.int .i64 n)]) ([]) (.tup [.d (lsD ⟨cutAt x.l n, x.s, x.c⟩), .d (.bool true)]) ([]) := by
  refine fnOK_wp (p := (FnOK Try.prog (32 : Nat) [AV.d (D.agg [D.sl (List.map pkD x.l), D.int IntKind.i64 x.s, D.int IntKind.i64 x.c]), AV.d (D.int IntKind.i64 (↑n : Int))] [] (AV.d (D.bool true)) []) ∧ (((0 : Int) ≤ (0 : Int) ∧ (0 : Int) ≤ (↑n : Int) ∧ (↑n : Int) ≤ (↑(List.map pkD x.l).length : Int)) ∧ ((∀ (e : D), e ∈ List.map pkD x.l → e.cells.length = (3 : Nat)) ∧ (((0 : Int) ≤ IntKind.i64.wrap ((↑n : Int) + (1 : Int)) ∧ IntKind.i64.wrap ((↑n : Int) + (1 : Int)) ≤ (↑(List.map pkD x.l).length : Int) ∧ (↑(List.map pkD x.l).length : Int) ≤ (↑(List.map pkD x.l).length : Int)) ∧ ((∀ (e : D), e ∈ List.map pkD x.l → e.cells.length = (3 : Nat)) ∧ ((FnOK Try.prog (34 : Nat) [AV.own (0 : Nat) (1 : Nat)] [Ob.row (1 : Nat) [D.sl (List.drop (0 : Nat) (List.take (↑n : Int).toNat (List.map pkD x.l))), D.sl (List.drop (IntKind.i64.wrap ((↑n : Int) + (1 : Int))).toNat (List.take (↑(List.map pkD x.l).length : Int).toNat (List.map pkD x.l)))]] (AV.own (1 : Nat) (3 : Nat)) [Ob.row (1 : Nat) [D.sl (List.map pkD (List.take n x.l)), D.sl (List.map pkD (List.drop (n + (1 : Nat)) x.l))], Ob.row (3 : Nat) (List.map pkD (cutAt x.l n))]) ∧ ((FnOK Try.prog (29 : Nat) [AV.d (D.agg [D.sl (List.map pkD x.l), D.int IntKind.i64 x.s, D.int IntKind.i64 x.c]), AV.d (D.int IntKind.i64 (0 : Int)), AV.own (0 : Nat) (3 : Nat)] [Ob.row (3 : Nat) (List.map pkD (cutAt x.l n))] (AV.agg [AV.own (1 : Nat) (3 : Nat), AV.d (D.int IntKind.i64 x.s), AV.d (D.int IntKind.i64 x.c)]) [Ob.row (3 : Nat) (List.map pkD (cutAt x.l n)), Ob.row (3 : Nat) (List.map pkD (cutAt x.l n))]) ∧ ((AV.tup [AV.d (D.agg [D.sl (List.map pkD (cutAt x.l n)), D.int IntKind.i64 x.s, D.int IntKind.i64 x.c]), AV.d (D.bool true)] = AV.tup [AV.d (D.agg [D.sl (List.map pkD (Ls.mk (cutAt x.l n) x.s x.c).l), D.int IntKind.i64 (Ls.mk (cutAt x.l n) x.s x.c).s, D.int IntKind.i64 (Ls.mk (cutAt x.l n) x.s x.c).c]), AV.d (D.bool true)]) ∧ (True))))))))) (h := {H := [(1, [(2, .call [] (.d (.bool true)) [])]), (3, [(11, .call [1168] (.own 1 3) [.row 1 [.sl ((x.l.take n).map pkD), .sl ((x.l.drop (n + 1)).map pkD)], .row 3 ((cutAt x.l n).map pkD)]), (12, .call [1176] (.agg [.own 1 3, .d (.int .i64 x.s), .d (.int .i64 x.c)]) [.row 3 ((cutAt x.l n).map pkD), .row 3 ((cutAt x.l n).map pkD)])])]}) (subs := []) (ws := []) (ρ := []) (by kernel_rfl) ?_
  obtain ⟨c1, -, c3, c4, c5, c6⟩ := chk_zero.1 hc
  have hm := get_lt hn
  have k1 := there32 x (by omega) n
  rw [ht] at k1
  have k2 := concat34 (x.l.take n) (x.l.drop (n + 1)) (by simp; omega) (by simp; omega)
  have k3 := with29o x 0 (cutAt x.l n) (by unfold cutAt; simp; omega) (by rw [IntKind.wrap_i64]; omega)
  rw [min_c c6] at k3
  have hi := inc_i64 (j := n) (by omega)
  simp only [List.length_map, hi]
  have e1 : ((x.l.map pkD).take ((n : Int)).toNat).drop 0 = (x.l.take n).map pkD := by simp
  have e2 : ((x.l.map pkD).take ((x.l.length : Int)).toNat).drop (((n + 1 : Nat) : Int)).toNat = (x.l.drop (n + 1)).map pkD := by
    rw [Int.toNat_natCast, Int.toNat_natCast, List.map_drop, List.take_of_length_le (by simp)]
  rw [e1, e2]
  have e3 : cutAt x.l n = x.l.take n ++ x.l.drop (n + 1) := rfl
  rw [← e3] at k2
  repeat' (first | with_reducible exact True.intro | with_reducible refine And.intro ?_ ?_ | with_reducible refine condP_dec (fun _ => ?_) (fun _ => ?_) | with_reducible refine condP_eq (fun _ => ?_) (fun _ => ?_) | with_reducible refine condP_ne (fun _ => ?_) (fun _ => ?_) | with_reducible refine condP_not (condP_dec (fun _ => ?_) (fun _ => ?_)) | with_reducible refine condP_not (condP_eq (fun _ => ?_) (fun _ => ?_)) | with_reducible refine condP_not (condP_intro (fun _ => ?_) (fun _ => ?_)) | with_reducible refine condP_intro (fun _ => ?_) (fun _ => ?_))
  all_goals first | exact k1 | exact k2 | exact k3 | rfl | omega | exact pkD_cells _ | (simp; omega) | skip

set_option maxRecDepth 100000 in
set_option maxHeartbeats 1000000 in
theorem drop13n (x : Ls) (hl : x.l.length < 1073741824) (n : Int) (ht : lThere x n = false) : FnOK Try.prog 13 ([.d (lsD x), .d (.int .i64 n)]) ([]) (.tup [.d (lsD x), .d (.bool false)]) ([]) := by
  refine fnOK_wp (p := (FnOK Try.prog (32 : Nat) [AV.d (D.agg [D.sl (List.map pkD x.l), D.int IntKind.i64 x.s, D.int IntKind.i64 x.c]), AV.d (D.int IntKind.i64 n)] [] (AV.d (D.bool false)) []) ∧ ((AV.tup [AV.d (D.agg [D.sl (List.map pkD x.l), D.int IntKind.i64 x.s, D.int IntKind.i64 x.c]), AV.d (D.bool false)] = AV.tup [AV.d (D.agg [D.sl (List.map pkD x.l), D.int IntKind.i64 x.s, D.int IntKind.i64 x.c]), AV.d (D.bool false)]) ∧ (True))) (h := {H := [(1, [(2, .call [] (.d (.bool false)) [])])]}) (subs := []) (ws := []) (ρ := []) (by kernel_rfl) ?_
  have k1 := there32 x hl n
  rw [ht] at k1
  repeat' (first | with_reducible exact True.intro | with_reducible refine And.intro ?_ ?_ | with_reducible refine condP_dec (fun _ => ?_) (fun _ => ?_) | with_reducible refine condP_eq (fun _ => ?_) (fun _ => ?_) | with_reducible refine condP_ne (fun _ => ?_) (fun _ => ?_) | with_reducible refine condP_not (condP_dec (fun _ => ?_) (fun _ => ?_)) | with_reducible refine condP_not (condP_eq (fun _ => ?_) (fun _ => ?_)) | with_reducible refine condP_not (condP_intro (fun _ => ?_) (fun _ => ?_)) | with_reducible refine condP_intro (fun _ => ?_) (fun _ => ?_))
  all_goals first | exact k1 | rfl | skip

theorem drop13 (x : Ls) (hl : x.l.length < 1073741824) (n : Int) : FnOK Try.prog 13 [.d (lsD x), .d (.int .i64 n)] [] (.tup [.d (lsD (lDrop x n)), .d (.bool (lThere x n))]) [] := by
  unfold lDrop
  cases h : lThere x n
  · exact drop13n x hl n h
  · obtain ⟨m, y, rfl, h1, h2⟩ := there_in h
    exact drop13y x m y h1 h (there_iff.1 h).1
/-! ### Taking -/
theorem chk_drop {x : Ls} {n : Int} (h : lChk x = 0) : lChk (lDrop x n) = 0 := by
  unfold lDrop
  split
  · rw [chk_zero] at h ⊢
    obtain ⟨h1, h2, h3⟩ := h
    refine ⟨?_, fun p hp => ?_, h3⟩
    · show (cutAt x.l n.toNat).length ≤ 200
      unfold cutAt; simp; omega
    · have hp : p ∈ cutAt x.l n.toNat := hp
      unfold cutAt at hp
      rcases List.mem_append.1 hp with h | h
      · exact h2 p (List.mem_of_mem_take h)
      · exact h2 p (List.mem_of_mem_drop h)
  · exact h
set_option maxRecDepth 100000 in
set_option maxHeartbeats 1000000 in
theorem take11k (x : Ls) (n : Nat) (y : Pk) (hn : x.l[n]? = some y) (ht : lThere x n = true) (hc : lChk x = 0) : FnOK Try.prog 11 ([.d (lsD x), .d (.int .i64 n), .d (.bool true)]) ([]) (.tup [.d (lsD ⟨x.l, x.s, min (x.c + 1) 1099511627776⟩), .d (pkD y), .d (.bool true)]) ([]) := by
  refine fnOK_wp (p := (FnOK Try.prog (32 : Nat) [AV.d (D.agg [D.sl (List.map pkD x.l), D.int IntKind.i64 x.s, D.int IntKind.i64 x.c]), AV.d (D.int IntKind.i64 (↑n : Int))] [] (AV.d (D.bool true)) []) ∧ ((FnOK Try.prog (29 : Nat) [AV.d (D.agg [D.sl (List.map pkD x.l), D.int IntKind.i64 x.s, D.int IntKind.i64 x.c]), AV.d (D.int IntKind.i64 (1 : Int)), AV.d (D.sl (List.map pkD x.l))] [] (AV.agg [AV.own (0 : Nat) (3 : Nat), AV.d (D.int IntKind.i64 x.s), AV.d (D.int IntKind.i64 (min (x.c + (1 : Int)) (1099511627776 : Int)))]) [Ob.row (3 : Nat) (List.map pkD x.l)]) ∧ (((0 : Int) ≤ (↑n : Int)) ∧ (((List.map pkD x.l)[(↑n : Int).toNat]? = some (D.agg [D.int IntKind.i64 y.p, D.int IntKind.i64 y.t, D.str y.d])) ∧ ((AV.tup [AV.d (D.agg [D.sl (List.map pkD x.l), D.int IntKind.i64 x.s, D.int IntKind.i64 (min (x.c + (1 : Int)) (1099511627776 : Int))]), AV.d (D.agg [D.int IntKind.i64 y.p, D.int IntKind.i64 y.t, D.str y.d]), AV.d (D.bool true)] = AV.tup [AV.d (D.agg [D.sl (List.map pkD (Ls.mk x.l x.s (min (x.c + (1 : Int)) (1099511627776 : Int))).l), D.int IntKind.i64 (Ls.mk x.l x.s (min (x.c + (1 : Int)) (1099511627776 : Int))).s, D.int IntKind.i64 (Ls.mk x.l x.s (min (x.c + (1 : Int)) (1099511627776 : Int))).c]), AV.d (D.agg [D.int IntKind.i64 y.p, D.int IntKind.i64 y.t, D.str y.d]), AV.d (D.bool true)]) ∧ (True)))))) (h := {H := [(1, [(2, .call [] (.d (.bool true)) [])]), (6, [(3, .call [] (.agg [.own 0 3, .d (.int .i64 x.s), .d (.int .i64 (min (x.c + 1) 1099511627776))]) [.row 3 (x.l.map pkD)])])], els := [(30, .el (pkD y))]}) (subs := []) (ws := []) (ρ := []) (by kernel_rfl) ?_
  obtain ⟨c1, -, c3, c4, c5, c6⟩ := chk_zero.1 hc
  have hm := get_lt hn
  have k1 := there32 x (by omega) n
  rw [ht] at k1
  have k3 := with29 x 1 x.l (by omega) (by rw [IntKind.wrap_i64]; omega)
  repeat' (first | with_reducible exact True.intro | with_reducible refine And.intro ?_ ?_ | with_reducible refine condP_dec (fun _ => ?_) (fun _ => ?_) | with_reducible refine condP_eq (fun _ => ?_) (fun _ => ?_) | with_reducible refine condP_ne (fun _ => ?_) (fun _ => ?_) | with_reducible refine condP_not (condP_dec (fun _ => ?_) (fun _ => ?_)) | with_reducible refine condP_not (condP_eq (fun _ => ?_) (fun _ => ?_)) | with_reducible refine condP_not (condP_intro (fun _ => ?_) (fun _ => ?_)) | with_reducible refine condP_intro (fun _ => ?_) (fun _ => ?_))
  all_goals first | exact k1 | exact k3 | exact el_map hn rfl | rfl | omega | skip

set_option maxRecDepth 100000 in
set_option maxHeartbeats 1000000 in
theorem take11d (x : Ls) (n : Nat) (y : Pk) (hn : x.l[n]? = some y) (ht : lThere x n = true) (hc : lChk x = 0) : FnOK Try.prog 11 ([.d (lsD x), .d (.int .i64 n), .d (.bool false)]) ([]) (.tup [.d (lsD ⟨cutAt x.l n, x.s, min (x.c + 1) 1099511627776⟩), .d (pkD y), .d (.bool true)]) ([]) := by
  refine fnOK_wp (p := (FnOK Try.prog (32 : Nat) [AV.d (D.agg [D.sl (List.map pkD x.l), D.int IntKind.i64 x.s, D.int IntKind.i64 x.c]), AV.d (D.int IntKind.i64 (↑n : Int))] [] (AV.d (D.bool true)) []) ∧ ((FnOK Try.prog (13 : Nat) [AV.d (D.agg [D.sl (List.map pkD x.l), D.int IntKind.i64 x.s, D.int IntKind.i64 x.c]), AV.d (D.int IntKind.i64 (↑n : Int))] [] (AV.tup [AV.d (D.agg [D.sl (List.map pkD (Ls.mk (cutAt x.l n) x.s x.c).l), D.int IntKind.i64 (Ls.mk (cutAt x.l n) x.s x.c).s, D.int IntKind.i64 (Ls.mk (cutAt x.l n) x.s x.c).c]), AV.d (D.bool true)]) []) ∧ ((FnOK Try.prog (29 : Nat) [AV.d (D.agg [D.sl (List.map pkD (Ls.mk (cutAt x.l n) x.s x.c).l), D.int IntKind.i64 (Ls.mk (cutAt x.l n) x.s x.c).s, D.int IntKind.i64 (Ls.mk (cutAt x.l n) x.s x.c).c]), AV.d (D.int IntKind.i64 (1 : Int)), AV.d (D.sl (List.map pkD (Ls.mk (cutAt x.l n) x.s x.c).l))] [] (AV.agg [AV.own (0 : Nat) (3 : Nat), AV.d (D.int IntKind.i64 x.s), AV.d (D.int IntKind.i64 (min (x.c + (1 : Int)) (1099511627776 : Int)))]) [Ob.row (3 : Nat) (List.map pkD (cutAt x.l n))]) ∧ (((0 : Int) ≤ (↑n : Int)) ∧ (((List.map pkD x.l)[(↑n : Int).toNat]? = some (D.agg [D.int IntKind.i64 y.p, D.int IntKind.i64 y.t, D.str y.d])) ∧ ((AV.tup [AV.d (D.agg [D.sl (List.map pkD (cutAt x.l n)), D.int IntKind.i64 x.s, D.int IntKind.i64 (min (x.c + (1 : Int)) (1099511627776 : Int))]), AV.d (D.agg [D.int IntKind.i64 y.p, D.int IntKind.i64 y.t, D.str y.d]), AV.d (D.bool true)] = AV.tup [AV.d (D.agg [D.sl (List.map pkD (Ls.mk (cutAt x.l n) x.s (min (x.c + (1 : Int)) (1099511627776 : Int))).l), D.int IntKind.i64 (Ls.mk (cutAt x.l n) x.s (min (x.c + (1 : Int)) (1099511627776 : Int))).s, D.int IntKind.i64 (Ls.mk (cutAt x.l n) x.s (min (x.c + (1 : Int)) (1099511627776 : Int))).c]), AV.d (D.agg [D.int IntKind.i64 y.p, D.int IntKind.i64 y.t, D.str y.d]), AV.d (D.bool true)]) ∧ (True))))))) (h := {H := [(1, [(2, .call [] (.d (.bool true)) [])]), (5, [(2, .call [] (.tup [.d (lsD ⟨cutAt x.l n, x.s, x.c⟩), .d (.bool true)]) [])]), (6, [(3, .call [] (.agg [.own 0 3, .d (.int .i64 x.s), .d (.int .i64 (min (x.c + 1) 1099511627776))]) [.row 3 ((cutAt x.l n).map pkD)])])], els := [(30, .el (pkD y))]}) (subs := []) (ws := []) (ρ := []) (by kernel_rfl) ?_
  obtain ⟨c1, -, c3, c4, c5, c6⟩ := chk_zero.1 hc
  have hm := get_lt hn
  have k1 := there32 x (by omega) n
  rw [ht] at k1
  have k2 := drop13y x n y hn ht hc
  have k3 := with29 ⟨cutAt x.l n, x.s, x.c⟩ 1 (cutAt x.l n) (by unfold cutAt; simp; omega) (by rw [IntKind.wrap_i64]; show _ = x.c + 1; simp only; omega)
  repeat' (first | with_reducible exact True.intro | with_reducible refine And.intro ?_ ?_ | with_reducible refine condP_dec (fun _ => ?_) (fun _ => ?_) | with_reducible refine condP_eq (fun _ => ?_) (fun _ => ?_) | with_reducible refine condP_ne (fun _ => ?_) (fun _ => ?_) | with_reducible refine condP_not (condP_dec (fun _ => ?_) (fun _ => ?_)) | with_reducible refine condP_not (condP_eq (fun _ => ?_) (fun _ => ?_)) | with_reducible refine condP_not (condP_intro (fun _ => ?_) (fun _ => ?_)) | with_reducible refine condP_intro (fun _ => ?_) (fun _ => ?_))
  all_goals first | exact k1 | exact k2 | exact k3 | exact el_map hn rfl | rfl | omega | skip

set_option maxRecDepth 100000 in
set_option maxHeartbeats 1000000 in
theorem take11n (x : Ls) (hl : x.l.length < 1073741824) (n : Int) (k : Bool) (ht : lThere x n = false) : FnOK Try.prog 11 ([.d (lsD x), .d (.int .i64 n), .d (.bool k)]) ([]) (.tup [.d (lsD x), .d (pkD pk0), .d (.bool false)]) ([]) := by
  refine fnOK_wp (p := (FnOK Try.prog (32 : Nat) [AV.d (D.agg [D.sl (List.map pkD x.l), D.int IntKind.i64 x.s, D.int IntKind.i64 x.c]), AV.d (D.int IntKind.i64 n)] [] (AV.d (D.bool false)) []) ∧ ((AV.tup [AV.d (D.agg [D.sl (List.map pkD x.l), D.int IntKind.i64 x.s, D.int IntKind.i64 x.c]), AV.d (D.agg [D.int IntKind.i64 (0 : Int), D.int IntKind.i64 (0 : Int), D.str []]), AV.d (D.bool false)] = AV.tup [AV.d (D.agg [D.sl (List.map pkD x.l), D.int IntKind.i64 x.s, D.int IntKind.i64 x.c]), AV.d (D.agg [D.int IntKind.i64 (0 : Int), D.int IntKind.i64 (0 : Int), D.str []]), AV.d (D.bool false)]) ∧ (True))) (h := {H := [(1, [(2, .call [] (.d (.bool false)) [])])]}) (subs := []) (ws := []) (ρ := []) (by kernel_rfl) ?_
  have k1 := there32 x hl n
  rw [ht] at k1
  repeat' (first | with_reducible exact True.intro | with_reducible refine And.intro ?_ ?_ | with_reducible refine condP_dec (fun _ => ?_) (fun _ => ?_) | with_reducible refine condP_eq (fun _ => ?_) (fun _ => ?_) | with_reducible refine condP_ne (fun _ => ?_) (fun _ => ?_) | with_reducible refine condP_not (condP_dec (fun _ => ?_) (fun _ => ?_)) | with_reducible refine condP_not (condP_eq (fun _ => ?_) (fun _ => ?_)) | with_reducible refine condP_not (condP_intro (fun _ => ?_) (fun _ => ?_)) | with_reducible refine condP_intro (fun _ => ?_) (fun _ => ?_))
  all_goals first | exact k1 | rfl | skip

theorem take11 (x : Ls) (hl : x.l.length < 1073741824) (n : Int) (k : Bool) : FnOK Try.prog 11 [.d (lsD x), .d (.int .i64 n), .d (.bool k)] [] (.tup [.d (lsD (lTake x n k)), .d (pkD (lTakeP x n)), .d (.bool (lThere x n))]) [] := by
  cases h : lThere x n
  · have e : lTakeP x n = pk0 := by unfold lTakeP; rw [h]; rfl
    rw [e]
    unfold lTake
    rw [h]
    exact take11n x hl n k h
  · obtain ⟨m, y, rfl, h1, h2⟩ := there_in h
    rw [h2]
    unfold lTake
    rw [h]
    cases k
    · exact take11d x m y h1 h (there_iff.1 h).1
    · exact take11k x m y h1 h (there_iff.1 h).1
/-! ### A byte changed -/
theorem xor_u8 (c : UInt8) (b : Int) (hb : 0 ≤ b) : bitsI .xor .u8 (c.toNat : Int) (IntKind.u8.wrap b) = ((c ^^^ UInt8.ofNat (b % 256).toNat).toNat : Int) := by
  have hbits : IntKind.u8.bits = 8 := rfl
  unfold bitsI
  dsimp only
  rw [IntKind.wrap_u8, IntKind.wrap_u8]
  have h1 : (BitVec.ofInt IntKind.u8.bits (c.toNat : Int) ^^^ BitVec.ofInt IntKind.u8.bits (b % 256)).toNat = (c ^^^ UInt8.ofNat (b % 256).toNat).toNat := by
    rw [BitVec.toNat_xor, UInt8.toNat_xor]
    have e1 : (BitVec.ofInt IntKind.u8.bits (c.toNat : Int)).toNat = c.toNat := by rw [BitVec.ofInt_natCast, BitVec.toNat_ofNat, hbits]; have := c.toNat_lt; omega
    have e2 : (BitVec.ofInt IntKind.u8.bits (b % 256)).toNat = (UInt8.ofNat (b % 256).toNat).toNat := by
      have e3 : b % 256 = ((b % 256).toNat : Int) := by omega
      generalize (b % 256).toNat = m at e3
      rw [e3, BitVec.ofInt_natCast, BitVec.toNat_ofNat, hbits]
      simp
    rw [e1, e2]
  rw [h1]
  have := (c ^^^ UInt8.ofNat (b % 256).toNat).toNat_lt
  omega
theorem map_set_byte (d : List UInt8) (k : Nat) (c : UInt8) : (d.map byteD).set k (.int .u8 (c.toNat : Int)) = (d.set k c).map byteD := by rw [List.map_set]; rfl
set_option maxRecDepth 100000 in
set_option maxHeartbeats 1000000 in
theorem flip15y (x : Ls) (n : Nat) (y : Pk) (hn : x.l[n]? = some y) (ht : lThere x n = true) (hc : lChk x = 0) (hy : lTakeP x n = y) (a b : Int) (a0 : 0 ≤ a) (a1 : a < 9223372036854775808) (b0 : 0 ≤ b) (hd : y.d ≠ []) (hd1 : y.d.length < 1073741824) (k : Nat) (hk : a % (y.d.length : Int) = k) (c : UInt8) (hkc : y.d[k]? = some c) (f : List UInt8) (hf : flipB y.d a b = f) : FnOK Try.prog 15 ([.d (lsD x), .d (.int .i64 n), .d (.int .i64 a), .d (.int .i64 b)]) ([]) (.tup [.d (lsD ⟨x.l.set n ⟨y.p, y.t, f⟩, x.s, x.c⟩), .d (.bool true)]) ([]) := by
  refine fnOK_wp (p := (D.bool (decide (a < (0 : Int))) = D.bool false) ∧ ((D.bool false = D.bool false) ∧ ((D.bool (decide (b < (0 : Int))) = D.bool false) ∧ ((D.bool false = D.bool false) ∧ ((FnOK Try.prog (32 : Nat) [AV.d (D.agg [D.sl (List.map pkD x.l), D.int IntKind.i64 x.s, D.int IntKind.i64 x.c]), AV.d (D.int IntKind.i64 (↑n : Int))] [] (AV.d (D.bool true)) []) ∧ ((D.bool false = D.bool false) ∧ (((0 : Int) ≤ (↑n : Int)) ∧ (((List.map pkD x.l)[(↑n : Int).toNat]? = some (D.agg [D.int IntKind.i64 y.p, D.int IntKind.i64 y.t, D.str y.d])) ∧ ((D.bool (y.d == []) = D.bool false) ∧ ((FnOK Try.prog (29 : Nat) [AV.d (D.agg [D.sl (List.map pkD x.l), D.int IntKind.i64 x.s, D.int IntKind.i64 x.c]), AV.d (D.int IntKind.i64 (0 : Int)), AV.d (D.sl (List.map pkD x.l))] [] (AV.agg [AV.own (0 : Nat) (3 : Nat), AV.d (D.int IntKind.i64 x.s), AV.d (D.int IntKind.i64 x.c)]) [Ob.row (3 : Nat) (List.map pkD x.l)]) ∧ (((0 : Int) ≤ (↑n : Int)) ∧ (((List.map pkD x.l)[(↑n : Int).toNat]? = some (D.agg [D.int IntKind.i64 y.p, D.int IntKind.i64 y.t, D.str y.d])) ∧ ((D.int IntKind.i64 (a.tmod (↑(List.map byteD y.d).length : Int)) = D.int IntKind.i64 (↑k : Int)) ∧ (((↑(List.map byteD y.d).length : Int) ≠ (0 : Int)) ∧ (((0 : Int) ≤ (↑k : Int) ∧ (↑k : Int) < (↑(List.map byteD y.d).length : Int)) ∧ (((1 : Nat) = (1 : Nat)) ∧ (((List.map byteD y.d)[(↑k : Int).toNat]? = some (D.int IntKind.u8 (↑c.toNat : Int))) ∧ (((0 : Int) ≤ (↑k : Int) ∧ (↑k : Int) < (↑(List.map byteD y.d).length : Int)) ∧ (((1 : Nat) = (1 : Nat)) ∧ (((List.map byteD y.d)[(↑k : Int).toNat]? = some (D.int IntKind.u8 (↑c.toNat : Int))) ∧ (((List.map byteD y.d).set (↑k : Int).toNat (D.int IntKind.u8 (bitsI BinOp.xor IntKind.u8 (↑c.toNat : Int) (IntKind.u8.wrap b))) = List.map byteD f) ∧ (((0 : Int) ≤ (↑n : Int) ∧ (↑n : Int) < (↑(List.map pkD x.l).length : Int)) ∧ (((↑n : Int).toNat < (List.map pkD x.l).length) ∧ (((3 : Nat) = (3 : Nat)) ∧ (((List.map pkD x.l)[(↑n : Int).toNat]? = some (D.agg [D.int IntKind.i64 y.p, D.int IntKind.i64 y.t, D.str y.d])) ∧ ((AV.tup [AV.d (D.agg [D.sl ((List.map pkD x.l).set (↑n : Int).toNat (D.agg (List.take (2 : Nat) [D.int IntKind.i64 y.p, D.int IntKind.i64 y.t, D.str y.d] ++ [D.str f] ++ List.drop ((2 : Nat) + [D.str f].length) [D.int IntKind.i64 y.p, D.int IntKind.i64 y.t, D.str y.d]))), D.int IntKind.i64 x.s, D.int IntKind.i64 x.c]), AV.d (D.bool true)] = AV.tup [AV.d (D.agg [D.sl (List.map pkD (Ls.mk (x.l.set n (Pk.mk y.p y.t f)) x.s x.c).l), D.int IntKind.i64 (Ls.mk (x.l.set n (Pk.mk y.p y.t f)) x.s x.c).s, D.int IntKind.i64 (Ls.mk (x.l.set n (Pk.mk y.p y.t f)) x.s x.c).c]), AV.d (D.bool true)]) ∧ (True))))))))))))))))))))))))))) (h := {H := [(1, [(1, .val (.bool false)), (4, .val (.bool false)), (9, .call [] (.d (.bool true)) []), (19, .val (.bool false))]), (3, [(3, .call [] (.agg [.own 0 3, .d (.int .i64 x.s), .d (.int .i64 x.c)]) [.row 3 (x.l.map pkD)])]), (5, [(4, .val (.int .i64 k))]), (6, [(4, .str f)])], els := [(26, .el (pkD y)), (39, .el (pkD y)), (50, .el (byteD c)), (55, .el (byteD c)), (62, .el (pkD y))]}) (subs := []) (ws := []) (ρ := []) (by kernel_rfl) ?_
  have hkl := get_lt hkc
  have hm := get_lt hn
  obtain ⟨c1, -, c3, c4, c5, c6⟩ := chk_zero.1 hc
  have hkm : a.tmod (y.d.length : Int) = k := by rw [Int.tmod_eq_emod_of_nonneg a0]; exact hk
  have hfx : y.d.set k (c ^^^ UInt8.ofNat (b % 256).toNat) = f := by
    rw [← hf]; unfold flipB; rw [hk, Int.toNat_natCast, hkc]; rfl
  have hff : (y.d.map byteD).set k (.int .u8 (bitsI .xor .u8 (c.toNat : Int) (IntKind.u8.wrap b))) = f.map byteD := by
    rw [xor_u8 c b b0, map_set_byte, hfx]
  have hset : (x.l.map pkD).set n (pkD ⟨y.p, y.t, f⟩) = (x.l.set n ⟨y.p, y.t, f⟩).map pkD := by rw [List.map_set]
  have hbt : IntKind.u8.wrap (b.tmod 256) = IntKind.u8.wrap b := by rw [Int.tmod_eq_emod_of_nonneg b0, IntKind.wrap_u8, IntKind.wrap_u8]; omega
  simp only [List.length_map, hkm, hbt]
  have k1 := there32 x (by omega) n
  rw [ht] at k1
  have k2 := with29 x 0 x.l (by omega) (by rw [IntKind.wrap_i64]; omega)
  rw [min_c c6] at k2
  repeat' (first | with_reducible exact True.intro | with_reducible refine And.intro ?_ ?_ | with_reducible refine condP_dec (fun _ => ?_) (fun _ => ?_) | with_reducible refine condP_eq (fun _ => ?_) (fun _ => ?_) | with_reducible refine condP_ne (fun _ => ?_) (fun _ => ?_) | with_reducible refine condP_not (condP_dec (fun _ => ?_) (fun _ => ?_)) | with_reducible refine condP_not (condP_eq (fun _ => ?_) (fun _ => ?_)) | with_reducible refine condP_not (condP_intro (fun _ => ?_) (fun _ => ?_)) | with_reducible refine condP_intro (fun _ => ?_) (fun _ => ?_))
  all_goals first | exact k1 | exact k2 | rfl | exact el_map hn rfl | exact el_map hkc rfl | omega | exact dno (by omega) | exact dyes (by omega) | exact hff | (refine congrArg D.bool ?_; simp; exact hd) | exact ⟨by omega, by omega⟩ | exact congrArg (fun z => AV.tup [AV.d (D.agg [D.sl z, D.int IntKind.i64 x.s, D.int IntKind.i64 x.c]), AV.d (D.bool true)]) hset | (simp; omega) | exact pkD_cells _ | skip

set_option maxRecDepth 100000 in
set_option maxHeartbeats 1000000 in
theorem flip16y (x : Ls) (n : Nat) (y : Pk) (hn : x.l[n]? = some y) (ht : lThere x n = true) (hc : lChk x = 0) (hy : lTakeP x n = y) (a b : Int) (a0 : 0 ≤ a) (a1 : a < 9223372036854775808) (b0 : 0 ≤ b) (hd : y.d ≠ []) (hd1 : y.d.length < 1073741824) (k : Nat) (hk : a % (y.d.length : Int) = k) (c : UInt8) (hkc : y.d[k]? = some c) (f : List UInt8) (hf : flipB y.d a b = f) : FnOK Try.prog 16 ([.d (lsD x), .d (.int .i64 n), .d (.int .i64 a), .d (.int .i64 b)]) ([]) (.tup [.d (lsD ⟨x.l.set n ⟨y.p, y.t, f⟩, x.s, x.c⟩), .d (.bool true)]) ([]) := by
  refine fnOK_wp (p := (FnOK Try.prog (33 : Nat) [AV.d (D.agg [D.sl (List.map pkD x.l), D.int IntKind.i64 x.s, D.int IntKind.i64 x.c]), AV.d (D.int IntKind.i64 (↑n : Int))] [] (AV.d (D.bool true)) []) ∧ ((D.bool false = D.bool false) ∧ ((D.bool (decide (a < (0 : Int))) = D.bool false) ∧ ((D.bool false = D.bool false) ∧ ((D.bool (decide (b < (0 : Int))) = D.bool false) ∧ ((D.bool false = D.bool false) ∧ (((0 : Int) ≤ (↑n : Int)) ∧ (((List.map pkD x.l)[(↑n : Int).toNat]? = some (D.agg [D.int IntKind.i64 y.p, D.int IntKind.i64 y.t, D.str y.d])) ∧ ((D.bool (y.d == []) = D.bool false) ∧ (((0 : Int) ≤ (↑n : Int)) ∧ (((List.map pkD x.l)[(↑n : Int).toNat]? = some (D.agg [D.int IntKind.i64 y.p, D.int IntKind.i64 y.t, D.str y.d])) ∧ ((D.int IntKind.i64 (a.tmod (↑(List.map byteD y.d).length : Int)) = D.int IntKind.i64 (↑k : Int)) ∧ (((↑(List.map byteD y.d).length : Int) ≠ (0 : Int)) ∧ (((0 : Int) ≤ (↑k : Int) ∧ (↑k : Int) < (↑(List.map byteD y.d).length : Int)) ∧ (((1 : Nat) = (1 : Nat)) ∧ (((List.map byteD y.d)[(↑k : Int).toNat]? = some (D.int IntKind.u8 (↑c.toNat : Int))) ∧ (((256 : Int) ≠ (0 : Int)) ∧ (((0 : Int) ≤ (↑k : Int) ∧ (↑k : Int) < (↑(List.map byteD y.d).length : Int)) ∧ (((1 : Nat) = (1 : Nat)) ∧ (((List.map byteD y.d)[(↑k : Int).toNat]? = some (D.int IntKind.u8 (↑c.toNat : Int))) ∧ ((((0 : Nat) + (List.map pkD x.l).length) * (32 : Nat) ≤ (140737488355328 : Nat)) ∧ ((∀ (e : D), e ∈ List.map pkD x.l → e.cells.length = (3 : Nat)) ∧ (((List.map byteD y.d).set (↑k : Int).toNat (D.int IntKind.u8 (bitsI BinOp.xor IntKind.u8 (↑c.toNat : Int) (IntKind.u8.wrap (b.tmod (256 : Int))))) = List.map byteD f) ∧ (((0 : Int) ≤ (↑n : Int) ∧ (↑n : Int) < (↑([] ++ List.map pkD x.l).length : Int)) ∧ (((↑n : Int).toNat < ([] ++ List.map pkD x.l).length) ∧ (((3 : Nat) = (3 : Nat)) ∧ ((([] ++ List.map pkD x.l)[(↑n : Int).toNat]? = some (D.agg [D.int IntKind.i64 y.p, D.int IntKind.i64 y.t, D.str y.d])) ∧ ((AV.tup [AV.d (D.agg [D.sl (([] ++ List.map pkD x.l).set (↑n : Int).toNat (D.agg (List.take (2 : Nat) [D.int IntKind.i64 y.p, D.int IntKind.i64 y.t, D.str y.d] ++ [D.str f] ++ List.drop ((2 : Nat) + [D.str f].length) [D.int IntKind.i64 y.p, D.int IntKind.i64 y.t, D.str y.d]))), D.int IntKind.i64 x.s, D.int IntKind.i64 x.c]), AV.d (D.bool true)] = AV.tup [AV.d (D.agg [D.sl (List.map pkD (Ls.mk (x.l.set n (Pk.mk y.p y.t f)) x.s x.c).l), D.int IntKind.i64 (Ls.mk (x.l.set n (Pk.mk y.p y.t f)) x.s x.c).s, D.int IntKind.i64 (Ls.mk (x.l.set n (Pk.mk y.p y.t f)) x.s x.c).c]), AV.d (D.bool true)]) ∧ (True))))))))))))))))))))))))))))) (h := {H := [(1, [(2, .call [] (.d (.bool true)) []), (6, .val (.bool false)), (10, .val (.bool false)), (19, .val (.bool false))]), (4, [(3, .val (.int .i64 k))]), (8, [(3, .str f)])], els := [(27, .el (pkD y)), (36, .el (pkD y)), (50, .el (byteD c)), (56, .el (byteD c)), (66, .el (pkD y))]}) (subs := []) (ws := []) (ρ := []) (by kernel_rfl) ?_
  have hkl := get_lt hkc
  have hm := get_lt hn
  obtain ⟨c1, -, c3, c4, c5, c6⟩ := chk_zero.1 hc
  have hkm : a.tmod (y.d.length : Int) = k := by rw [Int.tmod_eq_emod_of_nonneg a0]; exact hk
  have hfx : y.d.set k (c ^^^ UInt8.ofNat (b % 256).toNat) = f := by
    rw [← hf]; unfold flipB; rw [hk, Int.toNat_natCast, hkc]; rfl
  have hff : (y.d.map byteD).set k (.int .u8 (bitsI .xor .u8 (c.toNat : Int) (IntKind.u8.wrap b))) = f.map byteD := by
    rw [xor_u8 c b b0, map_set_byte, hfx]
  have hset : (x.l.map pkD).set n (pkD ⟨y.p, y.t, f⟩) = (x.l.set n ⟨y.p, y.t, f⟩).map pkD := by rw [List.map_set]
  have hbt : IntKind.u8.wrap (b.tmod 256) = IntKind.u8.wrap b := by rw [Int.tmod_eq_emod_of_nonneg b0, IntKind.wrap_u8, IntKind.wrap_u8]; omega
  simp only [List.length_map, hkm, hbt]
  have k1 := there33 x (by omega) n
  rw [ht] at k1
  have k2 := trivial
  repeat' (first | with_reducible exact True.intro | with_reducible refine And.intro ?_ ?_ | with_reducible refine condP_dec (fun _ => ?_) (fun _ => ?_) | with_reducible refine condP_eq (fun _ => ?_) (fun _ => ?_) | with_reducible refine condP_ne (fun _ => ?_) (fun _ => ?_) | with_reducible refine condP_not (condP_dec (fun _ => ?_) (fun _ => ?_)) | with_reducible refine condP_not (condP_eq (fun _ => ?_) (fun _ => ?_)) | with_reducible refine condP_not (condP_intro (fun _ => ?_) (fun _ => ?_)) | with_reducible refine condP_intro (fun _ => ?_) (fun _ => ?_))
  all_goals first | exact k1 | exact k2 | rfl | exact el_map hn rfl | exact el_map hkc rfl | omega | exact dno (by omega) | exact dyes (by omega) | exact hff | (refine congrArg D.bool ?_; simp; exact hd) | exact ⟨by omega, by omega⟩ | exact congrArg (fun z => AV.tup [AV.d (D.agg [D.sl z, D.int IntKind.i64 x.s, D.int IntKind.i64 x.c]), AV.d (D.bool true)]) hset | (simp; omega) | exact pkD_cells _ | skip

theorem flipB_there {x : Ls} {n : Nat} {y : Pk} (hn : x.l[n]? = some y) (ht : lThere x n = true) (hy : lTakeP x n = y) (a b : Int) (h : lFlipB x n a b = false) : a < 0 ∨ b < 0 ∨ y.d = [] := by
  unfold lFlipB at h
  rw [ht, hy] at h
  simp at h
  by_cases ha : a < 0
  · exact .inl ha
  · by_cases hb : b < 0
    · exact .inr (.inl hb)
    · exact .inr (.inr (h (by omega) (by omega)))
set_option maxRecDepth 100000 in
set_option maxHeartbeats 1000000 in
theorem flip15t (x : Ls) (hl : x.l.length < 1073741824) (n : Nat) (y : Pk) (hn : x.l[n]? = some y) (ht : lThere x n = true) (a b : Int) (h : a < 0 ∨ b < 0 ∨ y.d = []) : FnOK Try.prog 15 ([.d (lsD x), .d (.int .i64 n), .d (.int .i64 a), .d (.int .i64 b)]) ([]) (.tup [.d (lsD x), .d (.bool false)]) ([]) := by
  refine fnOK_wp (p := condP (decide (a < (0 : Int))) ((D.bool (decide (a < (0 : Int))) = D.bool true) ∧ ((D.bool true = D.bool true) ∧ ((D.bool true = D.bool true) ∧ ((AV.tup [AV.d (D.agg [D.sl (List.map pkD x.l), D.int IntKind.i64 x.s, D.int IntKind.i64 x.c]), AV.d (D.bool false)] = AV.tup [AV.d (D.agg [D.sl (List.map pkD x.l), D.int IntKind.i64 x.s, D.int IntKind.i64 x.c]), AV.d (D.bool false)]) ∧ (True))))) (condP (decide (b < (0 : Int))) ((D.bool (decide (a < (0 : Int))) = D.bool false) ∧ ((D.bool (decide (b < (0 : Int))) = D.bool true) ∧ ((D.bool true = D.bool true) ∧ ((AV.tup [AV.d (D.agg [D.sl (List.map pkD x.l), D.int IntKind.i64 x.s, D.int IntKind.i64 x.c]), AV.d (D.bool false)] = AV.tup [AV.d (D.agg [D.sl (List.map pkD x.l), D.int IntKind.i64 x.s, D.int IntKind.i64 x.c]), AV.d (D.bool false)]) ∧ (True))))) ((D.bool (decide (a < (0 : Int))) = D.bool false) ∧ ((D.bool (decide (b < (0 : Int))) = D.bool false) ∧ ((FnOK Try.prog (32 : Nat) [AV.d (D.agg [D.sl (List.map pkD x.l), D.int IntKind.i64 x.s, D.int IntKind.i64 x.c]), AV.d (D.int IntKind.i64 (↑n : Int))] [] (AV.d (D.bool true)) []) ∧ ((D.bool false = D.bool false) ∧ (((0 : Int) ≤ (↑n : Int)) ∧ (((List.map pkD x.l)[(↑n : Int).toNat]? = some (D.agg [D.int IntKind.i64 y.p, D.int IntKind.i64 y.t, D.str y.d])) ∧ (condP (y.d == []) ((AV.tup [AV.d (D.agg [D.sl (List.map pkD x.l), D.int IntKind.i64 x.s, D.int IntKind.i64 x.c]), AV.d (D.bool false)] = AV.tup [AV.d (D.agg [D.sl (List.map pkD x.l), D.int IntKind.i64 x.s, D.int IntKind.i64 x.c]), AV.d (D.bool false)]) ∧ (True)) (False)))))))))) (h := {H := [(1, [(9, .call [] (.d (.bool true)) [])])], els := [(26, .el (pkD y))]}) (subs := []) (ws := []) (ρ := []) (by kernel_rfl) ?_
  have k1 := there32 x hl n
  rw [ht] at k1
  repeat' (first | with_reducible exact True.intro | with_reducible refine And.intro ?_ ?_ | with_reducible refine condP_dec (fun _ => ?_) (fun _ => ?_) | with_reducible refine condP_eq (fun _ => ?_) (fun _ => ?_) | with_reducible refine condP_ne (fun _ => ?_) (fun _ => ?_) | with_reducible refine condP_not (condP_dec (fun _ => ?_) (fun _ => ?_)) | with_reducible refine condP_not (condP_eq (fun _ => ?_) (fun _ => ?_)) | with_reducible refine condP_not (condP_intro (fun _ => ?_) (fun _ => ?_)) | with_reducible refine condP_intro (fun _ => ?_) (fun _ => ?_))
  all_goals first | exact k1 | rfl | exact el_map hn rfl | omega | exact dno (by omega) | exact dyes (by omega) | (exfalso; simp_all; omega) | (exfalso; simp_all; done) | (simp_all; done) | skip

set_option maxRecDepth 100000 in
set_option maxHeartbeats 1000000 in
theorem flip15n (x : Ls) (hl : x.l.length < 1073741824) (n : Int) (ht : lThere x n = false) (a b : Int) : FnOK Try.prog 15 ([.d (lsD x), .d (.int .i64 n), .d (.int .i64 a), .d (.int .i64 b)]) ([]) (.tup [.d (lsD x), .d (.bool false)]) ([]) := by
  refine fnOK_wp (p := condP (decide (a < (0 : Int))) ((D.bool (decide (a < (0 : Int))) = D.bool true) ∧ ((D.bool true = D.bool true) ∧ ((D.bool true = D.bool true) ∧ ((AV.tup [AV.d (D.agg [D.sl (List.map pkD x.l), D.int IntKind.i64 x.s, D.int IntKind.i64 x.c]), AV.d (D.bool false)] = AV.tup [AV.d (D.agg [D.sl (List.map pkD x.l), D.int IntKind.i64 x.s, D.int IntKind.i64 x.c]), AV.d (D.bool false)]) ∧ (True))))) (condP (decide (b < (0 : Int))) ((D.bool (decide (a < (0 : Int))) = D.bool false) ∧ ((D.bool (decide (b < (0 : Int))) = D.bool true) ∧ ((D.bool true = D.bool true) ∧ ((AV.tup [AV.d (D.agg [D.sl (List.map pkD x.l), D.int IntKind.i64 x.s, D.int IntKind.i64 x.c]), AV.d (D.bool false)] = AV.tup [AV.d (D.agg [D.sl (List.map pkD x.l), D.int IntKind.i64 x.s, D.int IntKind.i64 x.c]), AV.d (D.bool false)]) ∧ (True))))) ((D.bool (decide (a < (0 : Int))) = D.bool false) ∧ ((D.bool (decide (b < (0 : Int))) = D.bool false) ∧ ((FnOK Try.prog (32 : Nat) [AV.d (D.agg [D.sl (List.map pkD x.l), D.int IntKind.i64 x.s, D.int IntKind.i64 x.c]), AV.d (D.int IntKind.i64 n)] [] (AV.d (D.bool false)) []) ∧ ((D.bool true = D.bool true) ∧ ((AV.tup [AV.d (D.agg [D.sl (List.map pkD x.l), D.int IntKind.i64 x.s, D.int IntKind.i64 x.c]), AV.d (D.bool false)] = AV.tup [AV.d (D.agg [D.sl (List.map pkD x.l), D.int IntKind.i64 x.s, D.int IntKind.i64 x.c]), AV.d (D.bool false)]) ∧ (True)))))))) (h := {H := [(1, [(9, .call [] (.d (.bool false)) [])])]}) (subs := []) (ws := []) (ρ := []) (by kernel_rfl) ?_
  have k1 := there32 x hl n
  rw [ht] at k1
  repeat' (first | with_reducible exact True.intro | with_reducible refine And.intro ?_ ?_ | with_reducible refine condP_dec (fun _ => ?_) (fun _ => ?_) | with_reducible refine condP_eq (fun _ => ?_) (fun _ => ?_) | with_reducible refine condP_ne (fun _ => ?_) (fun _ => ?_) | with_reducible refine condP_not (condP_dec (fun _ => ?_) (fun _ => ?_)) | with_reducible refine condP_not (condP_eq (fun _ => ?_) (fun _ => ?_)) | with_reducible refine condP_not (condP_intro (fun _ => ?_) (fun _ => ?_)) | with_reducible refine condP_intro (fun _ => ?_) (fun _ => ?_))
  all_goals first | exact k1 | rfl | omega | exact dno (by omega) | exact dyes (by omega) | skip

set_option maxRecDepth 100000 in
set_option maxHeartbeats 1000000 in
theorem flip16t (x : Ls) (hl : x.l.length < 1073741824) (n : Nat) (y : Pk) (hn : x.l[n]? = some y) (ht : lThere x n = true) (a b : Int) (h : a < 0 ∨ b < 0 ∨ y.d = []) : FnOK Try.prog 16 ([.d (lsD x), .d (.int .i64 n), .d (.int .i64 a), .d (.int .i64 b)]) ([]) (.tup [.d (lsD x), .d (.bool false)]) ([]) := by
  refine fnOK_wp (p := condP (decide (a < (0 : Int))) ((FnOK Try.prog (33 : Nat) [AV.d (D.agg [D.sl (List.map pkD x.l), D.int IntKind.i64 x.s, D.int IntKind.i64 x.c]), AV.d (D.int IntKind.i64 (↑n : Int))] [] (AV.d (D.bool true)) []) ∧ ((D.bool false = D.bool false) ∧ ((D.bool (decide (a < (0 : Int))) = D.bool true) ∧ ((D.bool true = D.bool true) ∧ ((AV.tup [AV.d (D.agg [D.sl (List.map pkD x.l), D.int IntKind.i64 x.s, D.int IntKind.i64 x.c]), AV.d (D.bool false)] = AV.tup [AV.d (D.agg [D.sl (List.map pkD x.l), D.int IntKind.i64 x.s, D.int IntKind.i64 x.c]), AV.d (D.bool false)]) ∧ (True)))))) (condP (decide (b < (0 : Int))) ((FnOK Try.prog (33 : Nat) [AV.d (D.agg [D.sl (List.map pkD x.l), D.int IntKind.i64 x.s, D.int IntKind.i64 x.c]), AV.d (D.int IntKind.i64 (↑n : Int))] [] (AV.d (D.bool true)) []) ∧ ((D.bool false = D.bool false) ∧ ((D.bool (decide (a < (0 : Int))) = D.bool false) ∧ ((D.bool (decide (b < (0 : Int))) = D.bool true) ∧ ((AV.tup [AV.d (D.agg [D.sl (List.map pkD x.l), D.int IntKind.i64 x.s, D.int IntKind.i64 x.c]), AV.d (D.bool false)] = AV.tup [AV.d (D.agg [D.sl (List.map pkD x.l), D.int IntKind.i64 x.s, D.int IntKind.i64 x.c]), AV.d (D.bool false)]) ∧ (True)))))) ((FnOK Try.prog (33 : Nat) [AV.d (D.agg [D.sl (List.map pkD x.l), D.int IntKind.i64 x.s, D.int IntKind.i64 x.c]), AV.d (D.int IntKind.i64 (↑n : Int))] [] (AV.d (D.bool true)) []) ∧ ((D.bool false = D.bool false) ∧ ((D.bool (decide (a < (0 : Int))) = D.bool false) ∧ ((D.bool (decide (b < (0 : Int))) = D.bool false) ∧ (((0 : Int) ≤ (↑n : Int)) ∧ (((List.map pkD x.l)[(↑n : Int).toNat]? = some (D.agg [D.int IntKind.i64 y.p, D.int IntKind.i64 y.t, D.str y.d])) ∧ (condP (y.d == []) ((AV.tup [AV.d (D.agg [D.sl (List.map pkD x.l), D.int IntKind.i64 x.s, D.int IntKind.i64 x.c]), AV.d (D.bool false)] = AV.tup [AV.d (D.agg [D.sl (List.map pkD x.l), D.int IntKind.i64 x.s, D.int IntKind.i64 x.c]), AV.d (D.bool false)]) ∧ (True)) (False)))))))))) (h := {H := [(1, [(2, .call [] (.d (.bool true)) [])])], els := [(27, .el (pkD y))]}) (subs := []) (ws := []) (ρ := []) (by kernel_rfl) ?_
  have k1 := there33 x hl n
  rw [ht] at k1
  repeat' (first | with_reducible exact True.intro | with_reducible refine And.intro ?_ ?_ | with_reducible refine condP_dec (fun _ => ?_) (fun _ => ?_) | with_reducible refine condP_eq (fun _ => ?_) (fun _ => ?_) | with_reducible refine condP_ne (fun _ => ?_) (fun _ => ?_) | with_reducible refine condP_not (condP_dec (fun _ => ?_) (fun _ => ?_)) | with_reducible refine condP_not (condP_eq (fun _ => ?_) (fun _ => ?_)) | with_reducible refine condP_not (condP_intro (fun _ => ?_) (fun _ => ?_)) | with_reducible refine condP_intro (fun _ => ?_) (fun _ => ?_))
  all_goals first | exact k1 | rfl | exact el_map hn rfl | omega | exact dno (by omega) | exact dyes (by omega) | (exfalso; simp_all; omega) | (exfalso; simp_all; done) | (simp_all; done) | skip

set_option maxRecDepth 100000 in
set_option maxHeartbeats 1000000 in
theorem flip16n (x : Ls) (hl : x.l.length < 1073741824) (n : Int) (ht : lThere x n = false) (a b : Int) : FnOK Try.prog 16 ([.d (lsD x), .d (.int .i64 n), .d (.int .i64 a), .d (.int .i64 b)]) ([]) (.tup [.d (lsD x), .d (.bool false)]) ([]) := by
  refine fnOK_wp (p := (FnOK Try.prog (33 : Nat) [AV.d (D.agg [D.sl (List.map pkD x.l), D.int IntKind.i64 x.s, D.int IntKind.i64 x.c]), AV.d (D.int IntKind.i64 n)] [] (AV.d (D.bool false)) []) ∧ ((D.bool true = D.bool true) ∧ ((D.bool true = D.bool true) ∧ ((D.bool true = D.bool true) ∧ ((AV.tup [AV.d (D.agg [D.sl (List.map pkD x.l), D.int IntKind.i64 x.s, D.int IntKind.i64 x.c]), AV.d (D.bool false)] = AV.tup [AV.d (D.agg [D.sl (List.map pkD x.l), D.int IntKind.i64 x.s, D.int IntKind.i64 x.c]), AV.d (D.bool false)]) ∧ (True)))))) (h := {H := [(1, [(2, .call [] (.d (.bool false)) [])])]}) (subs := []) (ws := []) (ρ := []) (by kernel_rfl) ?_
  have k1 := there33 x hl n
  rw [ht] at k1
  repeat' (first | with_reducible exact True.intro | with_reducible refine And.intro ?_ ?_ | with_reducible refine condP_dec (fun _ => ?_) (fun _ => ?_) | with_reducible refine condP_eq (fun _ => ?_) (fun _ => ?_) | with_reducible refine condP_ne (fun _ => ?_) (fun _ => ?_) | with_reducible refine condP_not (condP_dec (fun _ => ?_) (fun _ => ?_)) | with_reducible refine condP_not (condP_eq (fun _ => ?_) (fun _ => ?_)) | with_reducible refine condP_not (condP_intro (fun _ => ?_) (fun _ => ?_)) | with_reducible refine condP_intro (fun _ => ?_) (fun _ => ?_))
  all_goals first | exact k1 | rfl | omega | exact dno (by omega) | exact dyes (by omega) | skip

theorem flip_both (x : Ls) (hl : x.l.length < 1073741824) (hd : ∀ y ∈ x.l, y.d.length < 1073741824) (n a b : Int) (a1 : a < 9223372036854775808) : FnOK Try.prog 15 [.d (lsD x), .d (.int .i64 n), .d (.int .i64 a), .d (.int .i64 b)] [] (.tup [.d (lsD (lFlip x n a b)), .d (.bool (lFlipB x n a b))]) [] ∧
    FnOK Try.prog 16 [.d (lsD x), .d (.int .i64 n), .d (.int .i64 a), .d (.int .i64 b)] [] (.tup [.d (lsD (lFlip x n a b)), .d (.bool (lFlipB x n a b))]) [] := by
  unfold lFlip
  cases h : lFlipB x n a b
  · cases ht : lThere x n
    · exact ⟨flip15n x hl n ht a b, flip16n x hl n ht a b⟩
    · obtain ⟨m, y, rfl, h1, h2⟩ := there_in ht
      have h3 := flipB_there h1 ht h2 a b h
      exact ⟨flip15t x hl m y h1 ht a b h3, flip16t x hl m y h1 ht a b h3⟩
  · have h0 := h
    unfold lFlipB at h0
    rw [Bool.and_eq_true] at h0
    obtain ⟨ht, h4⟩ := h0
    obtain ⟨a0, b0, hne⟩ := of_decide_eq_true h4
    obtain ⟨m, y, rfl, h1, h2⟩ := there_in ht
    rw [h2] at hne
    have hpos := List.length_pos_iff.2 hne
    have hk0 : 0 ≤ a % (y.d.length : Int) := Int.emod_nonneg _ (by omega)
    have hk1 : a % (y.d.length : Int) < y.d.length := Int.emod_lt_of_pos _ (by omega)
    obtain ⟨k, hk⟩ := Int.eq_ofNat_of_zero_le hk0
    have hkl : k < y.d.length := by omega
    have hy := hd y (get_mem h1)
    have e : (if true = true then (⟨x.l.set ((m : Int)).toNat (flipP (lTakeP x m) a b), x.s, x.c⟩ : Ls) else x) = ⟨x.l.set m ⟨y.p, y.t, flipB y.d a b⟩, x.s, x.c⟩ := by rw [if_pos rfl, h2, Int.toNat_natCast]; rfl
    rw [e]
    exact ⟨flip15y x m y h1 ht (there_iff.1 ht).1 h2 a b a0 a1 b0 hne hy k hk _ (get_of hkl) _ rfl, flip16y x m y h1 ht (there_iff.1 ht).1 h2 a b a0 a1 b0 hne hy k hk _ (get_of hkl) _ rfl⟩
end Go.Proofs.Ytoagghehabceaaa
