/-
laws 06: what changes; what is told. No condition beyond the statements' own.
-/
import Derived.Test.YtkfiojolgkfbcaaS14
set_option linter.unusedSimpArgs false
set_option linter.unusedVariables false
namespace Go.Proofs.Ytkfiojolgkfbcaa
open Sx Go.RowKit

theorem ivs_of (x0 : D) (s0 : ∃ ds, CK.hasL [.sl true [.int .i64, .int .i64]] ds ∧ (if false = true then x0 = .agg ds else ds = [x0])) : ∃ l : List Iv, x0 = .sl (l.map ivD) := by
  obtain ⟨K, rfl, -, -⟩ := has_slOf ivD (fun _ => True) (ck1 s0) (fun y h => by
    obtain ⟨ds, rfl, h0⟩ := ckA h
    obtain ⟨d1, r1, rfl, g1, h1⟩ := hasL_cons h0
    obtain ⟨v1, rfl, a1, b1⟩ := has_i64 g1
    obtain ⟨d2, r2, rfl, g2, h2⟩ := hasL_cons h1
    obtain ⟨v2, rfl, a2, b2⟩ := has_i64 g2
    obtain rfl := hasL_nil h2
    exact ⟨(v1, v2), rfl, trivial⟩)
  exact ⟨K, rfl⟩
theorem iv_of (x0 : D) (s0 : ∃ ds, CK.hasL [.int .i64, .int .i64] ds ∧ (if true = true then x0 = .agg ds else ds = [x0])) : ∃ x : Iv, x0 = ivD x := by
  obtain ⟨ds, rfl, h0⟩ := ckA s0
  obtain ⟨d1, r1, rfl, g1, h1⟩ := hasL_cons h0
  obtain ⟨v1, rfl, a1, b1⟩ := has_i64 g1
  obtain ⟨d2, r2, rfl, g2, h2⟩ := hasL_cons h1
  obtain ⟨v2, rfl, a2, b2⟩ := has_i64 g2
  obtain rfl := hasL_nil h2
  exact ⟨(v1, v2), rfl⟩
set_option maxRecDepth 100000 in
set_option maxHeartbeats 1000000 in
theorem chg3n (s o : List Iv) (h : s.length > 30 ∨ o.length > 30) (x : D) (y : D) : FnOK Try.prog 3 ([.d (.sl (s.map ivD)), .d (.sl (o.map ivD)), .d (.agg [x, y])]) ([]) (.d (.bool true)) ([]) := by
  refine fnOK_wp (p := condP (decide ((↑(List.map ivD s).length : Int) > (30 : Int))) ((D.bool (decide ((↑(List.map ivD s).length : Int) > (30 : Int))) = D.bool true) ∧ ((D.bool true = D.bool true) ∧ ((FnOK Try.prog (7 : Nat) [] [] (AV.d (D.bool true)) []) ∧ ((AV.d (D.bool true) = AV.d (D.bool true)) ∧ (True))))) ((D.bool (decide ((↑(List.map ivD s).length : Int) > (30 : Int))) = D.bool false) ∧ ((D.bool (decide ((↑(List.map ivD o).length : Int) > (30 : Int))) = D.bool true) ∧ ((FnOK Try.prog (7 : Nat) [] [] (AV.d (D.bool true)) []) ∧ ((AV.d (D.bool true) = AV.d (D.bool true)) ∧ (True)))))) (h := {G := [(7, gYes)], H := [(1, [(7, .val (.bool true))])]}) (subs := []) (ws := []) (ρ := []) (by kernel_rfl) ?_
  simp only [List.length_map]
  repeat' (first | with_reducible exact True.intro | with_reducible refine And.intro ?_ ?_ | with_reducible refine condP_dec (fun _ => ?_) (fun _ => ?_) | with_reducible refine condP_eq (fun _ => ?_) (fun _ => ?_) | with_reducible refine condP_ne (fun _ => ?_) (fun _ => ?_) | with_reducible refine condP_not (condP_dec (fun _ => ?_) (fun _ => ?_)) | with_reducible refine condP_not (condP_eq (fun _ => ?_) (fun _ => ?_)) | with_reducible refine condP_not (condP_intro (fun _ => ?_) (fun _ => ?_)) | with_reducible refine condP_intro (fun _ => ?_) (fun _ => ?_))
  all_goals first | exact aw7 | rfl | (refine congrArg D.bool ?_; rw [decide_eq_true_eq]; omega) | exact dyes (by omega) | exact dno (by omega) | (exfalso; omega) | skip

set_option maxRecDepth 100000 in
set_option maxHeartbeats 1000000 in
theorem chg3 (s o : List Iv) (hs : s.length ≤ 30) (ho : o.length ≤ 30) (x : Iv) (A B C E : List Iv) (hA : A.length < 1000) (hB : B.length < 1000) (hC : C.length < 1000) (hE : E.length < 1000) (eA : rAdd s x = A) (eB : rCut s x = B) (eC : rGaps s x = C) (eE : rMeet s o = E) : FnOK Try.prog 3 ([.d (.sl (s.map ivD)), .d (.sl (o.map ivD)), .d (ivD x)]) ([]) (.d (.bool true)) ([]) := by
  refine fnOK_wp (p := (D.bool (decide ((↑(List.map ivD s).length : Int) > (30 : Int))) = D.bool false) ∧ ((D.bool (decide ((↑(List.map ivD o).length : Int) > (30 : Int))) = D.bool false) ∧ ((FnOK Try.prog (8 : Nat) [AV.d (D.sl (List.map ivD s))] [] (AV.d (D.sl (List.map ivD s))) []) ∧ ((FnOK Try.prog (11 : Nat) [AV.d (D.sl (List.map ivD s)), AV.d (D.agg [D.int IntKind.i64 x.fst, D.int IntKind.i64 x.snd])] [] (AV.d (D.sl (List.map ivD A))) []) ∧ ((FnOK Try.prog (10 : Nat) [AV.d (D.sl (List.map ivD A))] [] (AV.d (D.sl (List.map ivD A))) []) ∧ ((FnOK Try.prog (12 : Nat) [AV.d (D.sl (List.map ivD s)), AV.d (D.agg [D.int IntKind.i64 x.fst, D.int IntKind.i64 x.snd])] [] (AV.d (D.sl (List.map ivD A))) []) ∧ ((FnOK Try.prog (9 : Nat) [AV.d (D.sl (List.map ivD A)), AV.d (D.sl (List.map ivD A))] [] (AV.d (D.bool true)) []) ∧ ((D.bool true = D.bool true) ∧ ((FnOK Try.prog (13 : Nat) [AV.d (D.sl (List.map ivD s)), AV.d (D.agg [D.int IntKind.i64 x.fst, D.int IntKind.i64 x.snd])] [] (AV.d (D.sl (List.map ivD B))) []) ∧ ((FnOK Try.prog (10 : Nat) [AV.d (D.sl (List.map ivD B))] [] (AV.d (D.sl (List.map ivD B))) []) ∧ ((FnOK Try.prog (14 : Nat) [AV.d (D.sl (List.map ivD s)), AV.d (D.agg [D.int IntKind.i64 x.fst, D.int IntKind.i64 x.snd])] [] (AV.d (D.sl (List.map ivD B))) []) ∧ ((FnOK Try.prog (9 : Nat) [AV.d (D.sl (List.map ivD B)), AV.d (D.sl (List.map ivD B))] [] (AV.d (D.bool true)) []) ∧ ((D.bool true = D.bool true) ∧ ((FnOK Try.prog (15 : Nat) [AV.d (D.sl (List.map ivD s)), AV.d (D.agg [D.int IntKind.i64 x.fst, D.int IntKind.i64 x.snd])] [] (AV.d (D.sl (List.map ivD C))) []) ∧ ((FnOK Try.prog (10 : Nat) [AV.d (D.sl (List.map ivD C))] [] (AV.d (D.sl (List.map ivD C))) []) ∧ ((FnOK Try.prog (16 : Nat) [AV.d (D.sl (List.map ivD s)), AV.d (D.agg [D.int IntKind.i64 x.fst, D.int IntKind.i64 x.snd])] [] (AV.d (D.sl (List.map ivD C))) []) ∧ ((FnOK Try.prog (9 : Nat) [AV.d (D.sl (List.map ivD C)), AV.d (D.sl (List.map ivD C))] [] (AV.d (D.bool true)) []) ∧ ((D.bool true = D.bool true) ∧ ((FnOK Try.prog (8 : Nat) [AV.d (D.sl (List.map ivD o))] [] (AV.d (D.sl (List.map ivD o))) []) ∧ ((FnOK Try.prog (17 : Nat) [AV.d (D.sl (List.map ivD s)), AV.d (D.sl (List.map ivD o))] [] (AV.d (D.sl (List.map ivD E))) []) ∧ ((FnOK Try.prog (10 : Nat) [AV.d (D.sl (List.map ivD E))] [] (AV.d (D.sl (List.map ivD E))) []) ∧ ((FnOK Try.prog (18 : Nat) [AV.d (D.sl (List.map ivD s)), AV.d (D.sl (List.map ivD o))] [] (AV.d (D.sl (List.map ivD E))) []) ∧ ((FnOK Try.prog (9 : Nat) [AV.d (D.sl (List.map ivD E)), AV.d (D.sl (List.map ivD E))] [] (AV.d (D.bool true)) []) ∧ ((D.bool true = D.bool true) ∧ ((FnOK Try.prog (10 : Nat) [AV.d (D.sl (List.map ivD s))] [] (AV.d (D.sl (List.map ivD s))) []) ∧ ((FnOK Try.prog (9 : Nat) [AV.d (D.sl (List.map ivD s)), AV.d (D.sl (List.map ivD s))] [] (AV.d (D.bool true)) []) ∧ ((D.bool true = D.bool true) ∧ ((FnOK Try.prog (7 : Nat) [] [] (AV.d (D.bool true)) []) ∧ ((AV.d (D.bool true) = AV.d (D.bool true)) ∧ (True)))))))))))))))))))))))))))))) (h := {chain := true, H := [(1, [(3, .val (.bool false)), (7, .val (.bool false))])], G := [(8, gId), (10, gId), (11, gAns (.d (.sl (A.map ivD)))), (12, gAns (.d (.sl (A.map ivD)))), (13, gAns (.d (.sl (B.map ivD)))), (14, gAns (.d (.sl (B.map ivD)))), (15, gAns (.d (.sl (C.map ivD)))), (16, gAns (.d (.sl (C.map ivD)))), (17, gAns (.d (.sl (E.map ivD)))), (18, gAns (.d (.sl (E.map ivD)))), (9, gYes), (7, gYes)]}) (subs := []) (ws := []) (ρ := []) (by kernel_rfl) ?_
  have c1 := own8 s (by omega)
  have c2 := own8 o (by omega)
  have c3 := add11 s (by omega) x
  have c4 := add12 s (by omega) x
  have c5 := cut13 s (by omega) x
  have c6 := cut14 s (by omega) x
  have c7 := gaps15 s (by omega) x
  have c8 := gaps16 s (by omega) x
  have c9 := meet17 s o (by omega) (by omega)
  have ca := meet18 s o (by omega) (by omega)
  rw [← add_same] at c4
  rw [← cut_same] at c6
  rw [← gaps_same] at c8
  rw [← meet_same] at ca
  rw [eA] at c3 c4
  rw [eB] at c5 c6
  rw [eC] at c7 c8
  rw [eE] at c9 ca
  have d1 := back10 A (by omega)
  have d2 := back10 B (by omega)
  have d3 := back10 C (by omega)
  have d4 := back10 E (by omega)
  have d5 := back10 s (by omega)
  have e1 := same9 A A (by omega)
  have e2 := same9 B B (by omega)
  have e3 := same9 C C (by omega)
  have e4 := same9 E E (by omega)
  have e5 := same9 s s (by omega)
  rw [decide_eq_true rfl] at e1 e2 e3 e4 e5
  simp only [List.length_map]
  repeat' (first | with_reducible exact True.intro | with_reducible refine And.intro ?_ ?_ | with_reducible refine condP_dec (fun _ => ?_) (fun _ => ?_) | with_reducible refine condP_eq (fun _ => ?_) (fun _ => ?_) | with_reducible refine condP_ne (fun _ => ?_) (fun _ => ?_) | with_reducible refine condP_not (condP_dec (fun _ => ?_) (fun _ => ?_)) | with_reducible refine condP_not (condP_eq (fun _ => ?_) (fun _ => ?_)) | with_reducible refine condP_not (condP_intro (fun _ => ?_) (fun _ => ?_)) | with_reducible refine condP_intro (fun _ => ?_) (fun _ => ?_))
  all_goals first | exact c1 | exact c2 | exact c3 | exact c4 | exact c5 | exact c6 | exact c7 | exact c8 | exact c9 | exact ca | exact d1 | exact d2 | exact d3 | exact d4 | exact d5 | exact e1 | exact e2 | exact e3 | exact e4 | exact e5 | exact aw7 | rfl | omega | exact dno (by omega) | (refine congrArg D.bool ?_; simp; omega) | skip

theorem ivalsChange_ok (x0 : D) (s0 : ∃ ds, CK.hasL [.sl true [.int .i64, .int .i64]] ds ∧ (if false then x0 = .agg ds else ds = [x0])) (x1 : D) (s1 : ∃ ds, CK.hasL [.sl true [.int .i64, .int .i64]] ds ∧ (if false then x1 = .agg ds else ds = [x1])) (x2 : D) (s2 : ∃ ds, CK.hasL [.int .i64, .int .i64] ds ∧ (if true then x2 = .agg ds else ds = [x2])) :
    FnOK Try.prog 3 [.d x0, .d x1, .d x2] [] (.d (.bool true)) [] := by
  obtain ⟨s, rfl⟩ := ivs_of x0 s0
  obtain ⟨o, rfl⟩ := ivs_of x1 s1
  obtain ⟨x, rfl⟩ := iv_of x2 s2
  by_cases h : s.length ≤ 30 ∧ o.length ≤ 30
  · have h1 := rAdd_len s x
    have h2 := rCut_len s x
    have h3 := rGaps_len s x
    have h4 := rMeet_len s o
    have h5 : s.length * o.length ≤ 30 * 30 := Nat.mul_le_mul h.1 h.2
    exact chg3 s o h.1 h.2 x _ _ _ _ (by omega) (by omega) (by omega) (by omega) rfl rfl rfl rfl
  · exact chg3n s o (by omega) _ _
/-! ### Tell -/
set_option maxRecDepth 100000 in
set_option maxHeartbeats 1000000 in
theorem tel4n (s o : List Iv) (h : s.length > 30 ∨ o.length > 30) (x : D) (y : D) : FnOK Try.prog 4 ([.d (.sl (s.map ivD)), .d (.sl (o.map ivD)), .d (.agg [x, y])]) ([]) (.d (.bool true)) ([]) := by
  refine fnOK_wp (p := condP (decide ((↑(List.map ivD s).length : Int) > (30 : Int))) ((D.bool (decide ((↑(List.map ivD s).length : Int) > (30 : Int))) = D.bool true) ∧ ((D.bool true = D.bool true) ∧ ((FnOK Try.prog (7 : Nat) [] [] (AV.d (D.bool true)) []) ∧ ((AV.d (D.bool true) = AV.d (D.bool true)) ∧ (True))))) ((D.bool (decide ((↑(List.map ivD s).length : Int) > (30 : Int))) = D.bool false) ∧ ((D.bool (decide ((↑(List.map ivD o).length : Int) > (30 : Int))) = D.bool true) ∧ ((FnOK Try.prog (7 : Nat) [] [] (AV.d (D.bool true)) []) ∧ ((AV.d (D.bool true) = AV.d (D.bool true)) ∧ (True)))))) (h := {G := [(7, gYes)], H := [(1, [(7, .val (.bool true))])]}) (subs := []) (ws := []) (ρ := []) (by kernel_rfl) ?_
  simp only [List.length_map]
  repeat' (first | with_reducible exact True.intro | with_reducible refine And.intro ?_ ?_ | with_reducible refine condP_dec (fun _ => ?_) (fun _ => ?_) | with_reducible refine condP_eq (fun _ => ?_) (fun _ => ?_) | with_reducible refine condP_ne (fun _ => ?_) (fun _ => ?_) | with_reducible refine condP_not (condP_dec (fun _ => ?_) (fun _ => ?_)) | with_reducible refine condP_not (condP_eq (fun _ => ?_) (fun _ => ?_)) | with_reducible refine condP_not (condP_intro (fun _ => ?_) (fun _ => ?_)) | with_reducible refine condP_intro (fun _ => ?_) (fun _ => ?_))
  all_goals first | exact aw7 | rfl | (refine congrArg D.bool ?_; rw [decide_eq_true_eq]; omega) | exact dyes (by omega) | exact dno (by omega) | (exfalso; omega) | skip

set_option maxRecDepth 100000 in
set_option maxHeartbeats 1000000 in
theorem tel4z (s o : List Iv) (hs : s.length ≤ 30) (ho : o.length ≤ 30) (x : Iv) (e n : Int) (q : Bool) (he : iChk s = e) (hn : rCount s = n) (hq : decide (s = o) = q) (h0 : e ≠ 0) (d1 : True) (d2 : True) (d3 : True) (d4 : True) (d5 : True) (d6 : True) : FnOK Try.prog 4 ([.d (.sl (s.map ivD)), .d (.sl (o.map ivD)), .d (ivD x)]) ([]) (.d (.bool true)) ([]) := by
  refine fnOK_wp (p := (D.bool (decide ((↑(List.map ivD s).length : Int) > (30 : Int))) = D.bool false) ∧ ((D.bool (decide ((↑(List.map ivD o).length : Int) > (30 : Int))) = D.bool false) ∧ ((FnOK Try.prog (8 : Nat) [AV.d (D.sl (List.map ivD s))] [] (AV.d (D.sl (List.map ivD s))) []) ∧ (((0 : Int) ≤ (0 : Int) ∧ (0 : Int) < (↑(2 : Nat) : Int)) ∧ (((0 : Int) ≤ (1 : Int) ∧ (1 : Int) < (↑(2 : Nat) : Int)) ∧ ((FnOK Try.prog (19 : Nat) [AV.d (D.sl (List.map ivD s))] [] (AV.d (D.int IntKind.i64 e)) []) ∧ ((FnOK Try.prog (20 : Nat) [AV.d (D.sl (List.map ivD s))] [] (AV.d (D.int IntKind.i64 e)) []) ∧ ((D.bool (e != e) = D.bool false) ∧ ((D.bool false = D.bool false) ∧ ((FnOK Try.prog (21 : Nat) [AV.d (D.sl (List.map ivD s))] [] (AV.d (D.int IntKind.i64 n)) []) ∧ ((FnOK Try.prog (22 : Nat) [AV.d (D.sl (List.map ivD s))] [] (AV.d (D.int IntKind.i64 n)) []) ∧ ((D.bool (n != n) = D.bool false) ∧ ((D.bool false = D.bool false) ∧ ((D.bool false = D.bool false) ∧ ((FnOK Try.prog (8 : Nat) [AV.d (D.sl (List.map ivD o))] [] (AV.d (D.sl (List.map ivD o))) []) ∧ ((FnOK Try.prog (23 : Nat) [AV.d (D.sl (List.map ivD s)), AV.d (D.sl (List.map ivD o))] [] (AV.d (D.bool q)) []) ∧ ((FnOK Try.prog (9 : Nat) [AV.d (D.sl (List.map ivD s)), AV.d (D.sl (List.map ivD o))] [] (AV.d (D.bool q)) []) ∧ (((D.bool !q == q) = D.bool false) ∧ ((D.bool false = D.bool false) ∧ ((FnOK Try.prog (20 : Nat) [AV.d (D.sl (List.map ivD s))] [] (AV.d (D.int IntKind.i64 e)) []) ∧ ((D.bool (e != (0 : Int)) = D.bool true) ∧ ((FnOK Try.prog (7 : Nat) [] [] (AV.d (D.bool true)) []) ∧ ((AV.d (D.bool true) = AV.d (D.bool true)) ∧ (True)))))))))))))))))))))))) (h := {chain := true, G := [(8, gId), (19, gAns (.d (.int .i64 e))), (20, gAns (.d (.int .i64 e))), (21, gAns (.d (.int .i64 n))), (22, gAns (.d (.int .i64 n))), (23, gAns (.d (.bool q))), (9, gAns (.d (.bool q))), (7, gYes)], H := [(1, [(3, .val (.bool false)), (7, .val (.bool false))]), (4, [(4, .val (.bool false)), (5, .val (.bool false)), (10, .val (.bool false)), (11, .val (.bool false)), (12, .val (.bool false)), (20, .val (.bool false)), (21, .val (.bool false))]), (6, [(2, .val (.bool true))])]}) (subs := []) (ws := []) (ρ := []) (by kernel_rfl) ?_
  have c1 := own8 s (by omega)
  have c2 := own8 o (by omega)
  have c3 := chk19 s (by omega)
  have c4 := chk20 s (by omega)
  have c5 := count21 s (by omega)
  have c6 := count22 s (by omega)
  have c7 := same23 s o _ (ivD_equal s o (by omega))
  have c8 := same9 s o (by omega)
  rw [he] at c3 c4
  rw [hn] at c5 c6
  rw [hq] at c7 c8
  simp only [List.length_map]
  repeat' (first | with_reducible exact True.intro | with_reducible refine And.intro ?_ ?_ | with_reducible refine condP_dec (fun _ => ?_) (fun _ => ?_) | with_reducible refine condP_eq (fun _ => ?_) (fun _ => ?_) | with_reducible refine condP_ne (fun _ => ?_) (fun _ => ?_) | with_reducible refine condP_not (condP_dec (fun _ => ?_) (fun _ => ?_)) | with_reducible refine condP_not (condP_eq (fun _ => ?_) (fun _ => ?_)) | with_reducible refine condP_not (condP_intro (fun _ => ?_) (fun _ => ?_)) | with_reducible refine condP_intro (fun _ => ?_) (fun _ => ?_))
  all_goals first | exact c1 | exact c2 | exact c3 | exact c4 | exact c5 | exact c6 | exact c7 | exact c8 | exact d1 | exact d2 | exact d3 | exact d4 | exact d5 | exact d6 | exact aw7 | rfl | omega | exact dno (by omega) | (refine congrArg D.bool ?_; simp; done) | (refine congrArg D.bool ?_; simp; omega) | (refine congrArg D.bool ?_; simpa using h0) | skip

set_option maxRecDepth 100000 in
set_option maxHeartbeats 1000000 in
theorem tel4y (s o : List Iv) (hs : s.length ≤ 30) (ho : o.length ≤ 30) (x : Iv) (e n : Int) (q : Bool) (he : iChk s = e) (hn : rCount s = n) (hq : decide (s = o) = q) (h0 : e = 0) (a b : Bool) (f : Int) (d1 : FnOK Try.prog 24 [.d (.sl (s.map ivD)), .d (.int .i64 x.1)] [] (.d (.bool a)) []) (d2 : FnOK Try.prog 25 [.d (.sl (s.map ivD)), .d (.int .i64 x.1)] [] (.d (.bool a)) []) (d3 : FnOK Try.prog 26 [.d (.sl (s.map ivD)), .d (ivD x)] [] (.d (.bool b)) []) (d4 : FnOK Try.prog 27 [.d (.sl (s.map ivD)), .d (ivD x)] [] (.d (.bool b)) []) (d5 : FnOK Try.prog 28 [.d (.sl (s.map ivD)), .d (.int .i64 x.1)] [] (.d (.int .i64 f)) []) (d6 : FnOK Try.prog 29 [.d (.sl (s.map ivD)), .d (.int .i64 x.1)] [] (.d (.int .i64 f)) []) : FnOK Try.prog 4 ([.d (.sl (s.map ivD)), .d (.sl (o.map ivD)), .d (ivD x)]) ([]) (.d (.bool true)) ([]) := by
  refine fnOK_wp (p := (D.bool (decide ((↑(List.map ivD s).length : Int) > (30 : Int))) = D.bool false) ∧ ((D.bool (decide ((↑(List.map ivD o).length : Int) > (30 : Int))) = D.bool false) ∧ ((FnOK Try.prog (8 : Nat) [AV.d (D.sl (List.map ivD s))] [] (AV.d (D.sl (List.map ivD s))) []) ∧ (((0 : Int) ≤ (0 : Int) ∧ (0 : Int) < (↑(2 : Nat) : Int)) ∧ (((0 : Int) ≤ (1 : Int) ∧ (1 : Int) < (↑(2 : Nat) : Int)) ∧ ((FnOK Try.prog (19 : Nat) [AV.d (D.sl (List.map ivD s))] [] (AV.d (D.int IntKind.i64 e)) []) ∧ ((FnOK Try.prog (20 : Nat) [AV.d (D.sl (List.map ivD s))] [] (AV.d (D.int IntKind.i64 e)) []) ∧ ((D.bool (e != e) = D.bool false) ∧ ((D.bool false = D.bool false) ∧ ((FnOK Try.prog (21 : Nat) [AV.d (D.sl (List.map ivD s))] [] (AV.d (D.int IntKind.i64 n)) []) ∧ ((FnOK Try.prog (22 : Nat) [AV.d (D.sl (List.map ivD s))] [] (AV.d (D.int IntKind.i64 n)) []) ∧ ((D.bool (n != n) = D.bool false) ∧ ((D.bool false = D.bool false) ∧ ((D.bool false = D.bool false) ∧ ((FnOK Try.prog (8 : Nat) [AV.d (D.sl (List.map ivD o))] [] (AV.d (D.sl (List.map ivD o))) []) ∧ ((FnOK Try.prog (23 : Nat) [AV.d (D.sl (List.map ivD s)), AV.d (D.sl (List.map ivD o))] [] (AV.d (D.bool q)) []) ∧ ((FnOK Try.prog (9 : Nat) [AV.d (D.sl (List.map ivD s)), AV.d (D.sl (List.map ivD o))] [] (AV.d (D.bool q)) []) ∧ (((D.bool !q == q) = D.bool false) ∧ ((D.bool false = D.bool false) ∧ ((FnOK Try.prog (20 : Nat) [AV.d (D.sl (List.map ivD s))] [] (AV.d (D.int IntKind.i64 e)) []) ∧ ((D.bool (e != (0 : Int)) = D.bool false) ∧ (((0 : Int) ≤ (0 : Int) ∧ (0 : Int) < (↑(2 : Nat) : Int)) ∧ ((FnOK Try.prog (24 : Nat) [AV.d (D.sl (List.map ivD s)), AV.d (D.int IntKind.i64 x.fst)] [] (AV.d (D.bool a)) []) ∧ (((0 : Int) ≤ (0 : Int) ∧ (0 : Int) < (↑(2 : Nat) : Int)) ∧ ((FnOK Try.prog (25 : Nat) [AV.d (D.sl (List.map ivD s)), AV.d (D.int IntKind.i64 x.fst)] [] (AV.d (D.bool a)) []) ∧ ((D.bool (a == a) = D.bool true) ∧ ((D.bool true = D.bool true) ∧ ((FnOK Try.prog (26 : Nat) [AV.d (D.sl (List.map ivD s)), AV.d (D.agg [D.int IntKind.i64 x.fst, D.int IntKind.i64 x.snd])] [] (AV.d (D.bool b)) []) ∧ ((FnOK Try.prog (27 : Nat) [AV.d (D.sl (List.map ivD s)), AV.d (D.agg [D.int IntKind.i64 x.fst, D.int IntKind.i64 x.snd])] [] (AV.d (D.bool b)) []) ∧ ((D.bool (b == b) = D.bool true) ∧ ((D.bool true = D.bool true) ∧ (((0 : Int) ≤ (0 : Int) ∧ (0 : Int) < (↑(2 : Nat) : Int)) ∧ ((FnOK Try.prog (28 : Nat) [AV.d (D.sl (List.map ivD s)), AV.d (D.int IntKind.i64 x.fst)] [] (AV.d (D.int IntKind.i64 f)) []) ∧ (((0 : Int) ≤ (0 : Int) ∧ (0 : Int) < (↑(2 : Nat) : Int)) ∧ ((FnOK Try.prog (29 : Nat) [AV.d (D.sl (List.map ivD s)), AV.d (D.int IntKind.i64 x.fst)] [] (AV.d (D.int IntKind.i64 f)) []) ∧ ((D.bool (f == f) = D.bool true) ∧ ((D.bool true = D.bool true) ∧ ((FnOK Try.prog (7 : Nat) [] [] (AV.d (D.bool true)) []) ∧ ((AV.d (D.bool true) = AV.d (D.bool true)) ∧ (True)))))))))))))))))))))))))))))))))))))))) (h := {chain := true, G := [(8, gId), (19, gAns (.d (.int .i64 e))), (20, gAns (.d (.int .i64 e))), (21, gAns (.d (.int .i64 n))), (22, gAns (.d (.int .i64 n))), (23, gAns (.d (.bool q))), (9, gAns (.d (.bool q))), (7, gYes), (24, gAns (.d (.bool a))), (25, gAns (.d (.bool a))), (26, gAns (.d (.bool b))), (27, gAns (.d (.bool b))), (28, gAns (.d (.int .i64 f))), (29, gAns (.d (.int .i64 f)))], H := [(1, [(3, .val (.bool false)), (7, .val (.bool false))]), (4, [(4, .val (.bool false)), (5, .val (.bool false)), (10, .val (.bool false)), (11, .val (.bool false)), (12, .val (.bool false)), (20, .val (.bool false)), (21, .val (.bool false))]), (6, [(2, .val (.bool false))]), (8, [(8, .val (.bool true)), (16, .val (.bool true)), (27, .val (.bool true))])]}) (subs := []) (ws := []) (ρ := []) (by kernel_rfl) ?_
  have c1 := own8 s (by omega)
  have c2 := own8 o (by omega)
  have c3 := chk19 s (by omega)
  have c4 := chk20 s (by omega)
  have c5 := count21 s (by omega)
  have c6 := count22 s (by omega)
  have c7 := same23 s o _ (ivD_equal s o (by omega))
  have c8 := same9 s o (by omega)
  rw [he] at c3 c4
  rw [hn] at c5 c6
  rw [hq] at c7 c8
  simp only [List.length_map]
  repeat' (first | with_reducible exact True.intro | with_reducible refine And.intro ?_ ?_ | with_reducible refine condP_dec (fun _ => ?_) (fun _ => ?_) | with_reducible refine condP_eq (fun _ => ?_) (fun _ => ?_) | with_reducible refine condP_ne (fun _ => ?_) (fun _ => ?_) | with_reducible refine condP_not (condP_dec (fun _ => ?_) (fun _ => ?_)) | with_reducible refine condP_not (condP_eq (fun _ => ?_) (fun _ => ?_)) | with_reducible refine condP_not (condP_intro (fun _ => ?_) (fun _ => ?_)) | with_reducible refine condP_intro (fun _ => ?_) (fun _ => ?_))
  all_goals first | exact c1 | exact c2 | exact c3 | exact c4 | exact c5 | exact c6 | exact c7 | exact c8 | exact d1 | exact d2 | exact d3 | exact d4 | exact d5 | exact d6 | exact aw7 | rfl | omega | exact dno (by omega) | (refine congrArg D.bool ?_; simp; done) | (refine congrArg D.bool ?_; simp; omega) | (refine congrArg D.bool ?_; simpa using h0) | skip

theorem ivalsTell_ok (x0 : D) (s0 : ∃ ds, CK.hasL [.sl true [.int .i64, .int .i64]] ds ∧ (if false then x0 = .agg ds else ds = [x0])) (x1 : D) (s1 : ∃ ds, CK.hasL [.sl true [.int .i64, .int .i64]] ds ∧ (if false then x1 = .agg ds else ds = [x1])) (x2 : D) (s2 : ∃ ds, CK.hasL [.int .i64, .int .i64] ds ∧ (if true then x2 = .agg ds else ds = [x2])) :
    FnOK Try.prog 4 [.d x0, .d x1, .d x2] [] (.d (.bool true)) [] := by
  obtain ⟨s, rfl⟩ := ivs_of x0 s0
  obtain ⟨o, rfl⟩ := ivs_of x1 s1
  obtain ⟨x, rfl⟩ := iv_of x2 s2
  by_cases h : s.length ≤ 30 ∧ o.length ≤ 30
  · by_cases h0 : iChk s = 0
    · have ok := iChk_iff.1 h0
      have d1 := has24 s x.1 _ _ trivial (find41 s (by omega) x.1)
      rw [show (fnd s x.1).2 = has s x.1 from rHas_eq s x.1] at d1
      have d3 : FnOK _ _ _ _ (.d (.bool (rHolds s x))) _ := holds26 s x _ _ (find41 s (by omega) x.1)
      have d4 := holds27 s (by omega) x
      rw [← holds_same ok] at d4
      have d6 := first29 s (by omega) x.1
      rw [← first_same ok] at d6
      exact tel4y s o h.1 h.2 x _ _ _ rfl rfl rfl h0 _ _ _ d1 (has25 s (by omega) x.1) d3 d4 (first28 s (by omega) x.1) d6
    · exact tel4z s o h.1 h.2 x _ _ _ rfl rfl rfl h0 trivial trivial trivial trivial trivial trivial
  · exact tel4n s o (by omega) _ _
end Go.Proofs.Ytkfiojolgkfbcaa
