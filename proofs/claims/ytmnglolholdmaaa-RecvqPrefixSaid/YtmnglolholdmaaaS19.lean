/-
laws 12: what is taken, and told. No condition beyond the statements' own.
-/
import Derived.Test.YtmnglolholdmaaaS18
set_option linter.unusedSimpArgs false
set_option linter.unusedVariables false
namespace Go.Proofs.Ytmnglolholdmaaa
open Sx Go.RowKit

theorem rq_of (x0 : D) (s0 : ∃ ds, CK.hasL [.int .i64, .str, .sl true [.int .i64, .str]] ds ∧ (if true = true then x0 = .agg ds else ds = [x0])) : ∃ x : Rq, x0 = rqD x ∧ (-9223372036854775808 ≤ x.b ∧ x.b < 9223372036854775808) ∧ ∀ y ∈ x.p, -9223372036854775808 ≤ y.a ∧ y.a < 9223372036854775808 := by
  obtain ⟨ds, rfl, h0⟩ := ckA s0
  obtain ⟨d1, r1, rfl, g1, h1⟩ := hasL_cons h0
  obtain ⟨v1, rfl, a1, b1⟩ := has_i64 g1
  obtain ⟨d2, r2, rfl, g2, h2⟩ := hasL_cons h1
  obtain ⟨v2, rfl, -⟩ := has_str g2
  obtain ⟨d3, r3, rfl, g3, h3⟩ := hasL_cons h2
  obtain ⟨K, rfl, -, hK⟩ := has_slOf ptD (fun y => -9223372036854775808 ≤ y.a ∧ y.a < 9223372036854775808) g3 (fun y h => by
    obtain ⟨ds, rfl, h0⟩ := ckA h
    obtain ⟨d1, r1, rfl, g1, h1⟩ := hasL_cons h0
    obtain ⟨v1, rfl, a1, b1⟩ := has_i64 g1
    obtain ⟨d2, r2, rfl, g2, h2⟩ := hasL_cons h1
    obtain ⟨v2, rfl, -⟩ := has_str g2
    obtain rfl := hasL_nil h2
    exact ⟨⟨v1, v2⟩, rfl, a1, b1⟩)
  obtain rfl := hasL_nil h3
  exact ⟨⟨v1, v2, K⟩, rfl, ⟨a1, b1⟩, hK⟩
theorem light_of {x : Rq} (h : rLight x = true) : x.r.length ≤ 5000 ∧ x.p.length ≤ 20 ∧ sumD x.p < 300 := by
  have := of_decide_eq_true h
  rw [mnD_sum this.2.2]
  exact this
theorem light_rb {x : Rq} (h : rLight x = true) (hb : -9223372036854775808 ≤ x.b ∧ x.b < 9223372036854775808) (hp : ∀ y ∈ x.p, -9223372036854775808 ≤ y.a ∧ y.a < 9223372036854775808) : Rb x := by
  have hl := light_of h
  exact ⟨hb, by omega, by omega, fun y hy => ⟨hp y hy, by have := sumD_mem hy; omega⟩⟩
theorem put_len {s : Rq} {k : Int} {d : List UInt8} (h1 : rHeld s + d.length < 700000) (hl : s.p.length < 700000) : (rPut s k d).1.p.length < 800000 := by
  by_cases hno : k < 0 ∨ k > 1099511627776 ∨ rChk s ≠ 0
  · unfold rPut
    rw [if_pos hno]
    show s.p.length < _
    omega
  · have h := ok_iff.1 (show rChk s = 0 by omega)
    obtain ⟨i1, -, -, i4⟩ := rPut_ok h k (by omega) (by omega) d
    have e := put_same h k (by omega) (by omega) d
    obtain ⟨-, -, -, -, -, -, j7⟩ := dJ_ok h k d d.length (Nat.le_refl _)
    rw [List.take_length] at j7
    have e2 : (rPut s k d).2 ≤ d.length := by rw [e]; exact j7
    exact ok_len i1 (by omega)
/-! ### Takes -/
set_option maxRecDepth 100000 in
set_option maxHeartbeats 1000000 in
theorem tak3 (x : Rq) (hl : x.p.length ≤ 20) (s : List UInt8) (hs : s.length ≤ 100) (n m : Int) (A : Rq) (i : Int) (C : Rq) (t : List UInt8) (hA : A.p.length < 800000) (hC : C.p.length < 800000) (c1 : FnOK Try.prog 8 [.d (rqD x)] [] (.d (.bool true)) []) (c2 : FnOK Try.prog 11 [.d (rqD x), .d (.int .i64 n), .d (.str s)] [] (.tup [.d (rqD A), .d (.int .i64 i)]) []) (c3 : FnOK Try.prog 12 [.d (rqD x), .d (.int .i64 n), .d (.str s)] [] (.tup [.d (rqD A), .d (.int .i64 i)]) []) (c4 : FnOK Try.prog 13 [.d (rqD x), .d (.int .i64 m)] [] (.tup [.d (rqD C), .d (.str t)]) []) (c5 : FnOK Try.prog 14 [.d (rqD x), .d (.int .i64 m)] [] (.tup [.d (rqD C), .d (.str t)]) []) : FnOK Try.prog 3 ([.d (rqD x), .d (.str s), .d (.agg [.int .i64 n, .int .i64 m])]) ([]) (.d (.bool true)) ([]) := by
  refine fnOK_wp (p := (FnOK Try.prog (8 : Nat) [AV.d (D.agg [D.int IntKind.i64 x.b, D.str x.r, D.sl (List.map ptD x.p)])] [] (AV.d (D.bool true)) []) ∧ ((D.bool false = D.bool false) ∧ ((D.bool false = D.bool false) ∧ ((D.bool (decide ((↑s.length : Int) > (100 : Int))) = D.bool false) ∧ ((FnOK Try.prog (10 : Nat) [AV.d (D.agg [D.int IntKind.i64 x.b, D.str x.r, D.sl (List.map ptD x.p)])] [] (AV.d (D.agg [D.int IntKind.i64 x.b, D.str x.r, D.sl (List.map ptD x.p)])) []) ∧ (((0 : Int) ≤ (0 : Int) ∧ (0 : Int) < (↑(2 : Nat) : Int)) ∧ ((FnOK Try.prog (11 : Nat) [AV.d (D.agg [D.int IntKind.i64 x.b, D.str x.r, D.sl (List.map ptD x.p)]), AV.d (D.int IntKind.i64 n), AV.d (D.str s)] [] (AV.tup [AV.d (D.agg [D.int IntKind.i64 A.b, D.str A.r, D.sl (List.map ptD A.p)]), AV.d (D.int IntKind.i64 i)]) []) ∧ (((0 : Int) ≤ (0 : Int) ∧ (0 : Int) < (↑(2 : Nat) : Int)) ∧ ((FnOK Try.prog (12 : Nat) [AV.d (D.agg [D.int IntKind.i64 x.b, D.str x.r, D.sl (List.map ptD x.p)]), AV.d (D.int IntKind.i64 n), AV.d (D.str s)] [] (AV.tup [AV.d (D.agg [D.int IntKind.i64 A.b, D.str A.r, D.sl (List.map ptD A.p)]), AV.d (D.int IntKind.i64 i)]) []) ∧ (((0 : Int) ≤ (1 : Int) ∧ (1 : Int) < (↑(2 : Nat) : Int)) ∧ ((FnOK Try.prog (13 : Nat) [AV.d (D.agg [D.int IntKind.i64 x.b, D.str x.r, D.sl (List.map ptD x.p)]), AV.d (D.int IntKind.i64 m)] [] (AV.tup [AV.d (D.agg [D.int IntKind.i64 C.b, D.str C.r, D.sl (List.map ptD C.p)]), AV.d (D.str t)]) []) ∧ (((0 : Int) ≤ (1 : Int) ∧ (1 : Int) < (↑(2 : Nat) : Int)) ∧ ((FnOK Try.prog (14 : Nat) [AV.d (D.agg [D.int IntKind.i64 x.b, D.str x.r, D.sl (List.map ptD x.p)]), AV.d (D.int IntKind.i64 m)] [] (AV.tup [AV.d (D.agg [D.int IntKind.i64 C.b, D.str C.r, D.sl (List.map ptD C.p)]), AV.d (D.str t)]) []) ∧ ((FnOK Try.prog (16 : Nat) [AV.d (D.agg [D.int IntKind.i64 A.b, D.str A.r, D.sl (List.map ptD A.p)])] [] (AV.d (D.agg [D.int IntKind.i64 A.b, D.str A.r, D.sl (List.map ptD A.p)])) []) ∧ ((FnOK Try.prog (15 : Nat) [AV.d (D.agg [D.int IntKind.i64 A.b, D.str A.r, D.sl (List.map ptD A.p)]), AV.d (D.agg [D.int IntKind.i64 A.b, D.str A.r, D.sl (List.map ptD A.p)])] [] (AV.d (D.bool true)) []) ∧ ((D.bool true = D.bool true) ∧ ((D.bool (i == i) = D.bool true) ∧ ((FnOK Try.prog (16 : Nat) [AV.d (D.agg [D.int IntKind.i64 C.b, D.str C.r, D.sl (List.map ptD C.p)])] [] (AV.d (D.agg [D.int IntKind.i64 C.b, D.str C.r, D.sl (List.map ptD C.p)])) []) ∧ ((FnOK Try.prog (15 : Nat) [AV.d (D.agg [D.int IntKind.i64 C.b, D.str C.r, D.sl (List.map ptD C.p)]), AV.d (D.agg [D.int IntKind.i64 C.b, D.str C.r, D.sl (List.map ptD C.p)])] [] (AV.d (D.bool true)) []) ∧ ((D.bool true = D.bool true) ∧ ((D.bool (t == t) = D.bool true) ∧ ((FnOK Try.prog (16 : Nat) [AV.d (D.agg [D.int IntKind.i64 x.b, D.str x.r, D.sl (List.map ptD x.p)])] [] (AV.d (D.agg [D.int IntKind.i64 x.b, D.str x.r, D.sl (List.map ptD x.p)])) []) ∧ ((FnOK Try.prog (15 : Nat) [AV.d (D.agg [D.int IntKind.i64 x.b, D.str x.r, D.sl (List.map ptD x.p)]), AV.d (D.agg [D.int IntKind.i64 x.b, D.str x.r, D.sl (List.map ptD x.p)])] [] (AV.d (D.bool true)) []) ∧ ((D.bool true = D.bool true) ∧ ((FnOK Try.prog (9 : Nat) [] [] (AV.d (D.bool true)) []) ∧ ((AV.d (D.bool true) = AV.d (D.bool true)) ∧ (True))))))))))))))))))))))))))) (h := {chain := true, H := [(1, [(2, .val (.bool false)), (6, .val (.bool false))])], G := [(8, gYes), (10, gId), (16, gId), (11, gAns (.tup [.d (rqD A), .d (.int .i64 i)])), (12, gAns (.tup [.d (rqD A), .d (.int .i64 i)])), (13, gAns (.tup [.d (rqD C), .d (.str t)])), (14, gAns (.tup [.d (rqD C), .d (.str t)])), (15, gYes), (9, gYes)]}) (subs := []) (ws := []) (ρ := []) (by kernel_rfl) ?_
  have c6 := own10 x (by omega)
  have c7 := back16 x (by omega)
  have c8 := back16 A (by omega)
  have c9 := back16 C (by omega)
  have ca := same15 A A (by omega)
  have cb := same15 C C (by omega)
  have cc := same15 x x (by omega)
  rw [decide_eq_true rfl] at ca cb cc
  repeat' (first | with_reducible exact True.intro | with_reducible refine And.intro ?_ ?_ | with_reducible refine condP_dec (fun _ => ?_) (fun _ => ?_) | with_reducible refine condP_eq (fun _ => ?_) (fun _ => ?_) | with_reducible refine condP_ne (fun _ => ?_) (fun _ => ?_) | with_reducible refine condP_not (condP_dec (fun _ => ?_) (fun _ => ?_)) | with_reducible refine condP_not (condP_eq (fun _ => ?_) (fun _ => ?_)) | with_reducible refine condP_not (condP_intro (fun _ => ?_) (fun _ => ?_)) | with_reducible refine condP_intro (fun _ => ?_) (fun _ => ?_))
  all_goals first | exact c1 | exact c2 | exact c3 | exact c4 | exact c5 | exact c6 | exact c7 | exact c8 | exact c9 | exact ca | exact cb | exact cc | exact aw9 | rfl | omega | exact dno (by omega) | (refine congrArg D.bool ?_; simp; done) | skip

set_option maxRecDepth 100000 in
set_option maxHeartbeats 1000000 in
theorem tak3n (x : Rq) (q : Bool) (s : List UInt8) (n : D) (n2 : D) (h : ¬(q = true ∧ s.length ≤ 100)) (c1 : FnOK Try.prog 8 [.d (rqD x)] [] (.d (.bool q)) []) : FnOK Try.prog 3 ([.d (rqD x), .d (.str s), .d (.agg [n, n2])]) ([]) (.d (.bool true)) ([]) := by
  refine fnOK_wp (p := condP (!q) ((FnOK Try.prog (8 : Nat) [AV.d (D.agg [D.int IntKind.i64 x.b, D.str x.r, D.sl (List.map ptD x.p)])] [] (AV.d (D.bool q)) []) ∧ (((D.bool !q) = D.bool true) ∧ ((FnOK Try.prog (9 : Nat) [] [] (AV.d (D.bool true)) []) ∧ ((AV.d (D.bool true) = AV.d (D.bool true)) ∧ (True))))) ((FnOK Try.prog (8 : Nat) [AV.d (D.agg [D.int IntKind.i64 x.b, D.str x.r, D.sl (List.map ptD x.p)])] [] (AV.d (D.bool q)) []) ∧ (((D.bool !q) = D.bool false) ∧ (condP (decide ((↑s.length : Int) > (100 : Int))) ((FnOK Try.prog (9 : Nat) [] [] (AV.d (D.bool true)) []) ∧ ((AV.d (D.bool true) = AV.d (D.bool true)) ∧ (True))) ((FnOK Try.prog (10 : Nat) [AV.d (D.agg [D.int IntKind.i64 x.b, D.str x.r, D.sl (List.map ptD x.p)])] [] (AV.d (D.agg [D.int IntKind.i64 x.b, D.str x.r, D.sl (List.map ptD x.p)])) []) ∧ (False)))))) (h := {G := [(8, gAns (.d (.bool q))), (10, gId), (9, gYes)]}) (subs := []) (ws := []) (ρ := []) (by kernel_rfl) ?_
  repeat' (first | with_reducible exact True.intro | with_reducible refine And.intro ?_ ?_ | with_reducible refine condP_dec (fun _ => ?_) (fun _ => ?_) | with_reducible refine condP_eq (fun _ => ?_) (fun _ => ?_) | with_reducible refine condP_ne (fun _ => ?_) (fun _ => ?_) | with_reducible refine condP_not (condP_dec (fun _ => ?_) (fun _ => ?_)) | with_reducible refine condP_not (condP_eq (fun _ => ?_) (fun _ => ?_)) | with_reducible refine condP_not (condP_intro (fun _ => ?_) (fun _ => ?_)) | with_reducible refine condP_intro (fun _ => ?_) (fun _ => ?_))
  all_goals first | exact c1 | exact aw9 | rfl | exact dyes (by omega) | exact dno (by omega) | (exfalso; omega) | (exfalso; simp_all; omega) | (exfalso; simp_all; done) | (refine congrArg D.bool ?_; simp_all; done) | skip

theorem recvqTakes_ok (x0 : D) (s0 : ∃ ds, CK.hasL [.int .i64, .str, .sl true [.int .i64, .str]] ds ∧ (if true then x0 = .agg ds else ds = [x0])) (x1 : D) (s1 : ∃ ds, CK.hasL [.str] ds ∧ (if false then x1 = .agg ds else ds = [x1])) (x2 : D) (s2 : ∃ ds, CK.hasL [.int .i64, .int .i64] ds ∧ (if true then x2 = .agg ds else ds = [x2])) :
    FnOK Try.prog 3 [.d x0, .d x1, .d x2] [] (.d (.bool true)) [] := by
  obtain ⟨x, rfl, hx, hp⟩ := rq_of x0 s0
  obtain ⟨s, rfl, -⟩ := has_str (ck1 s1)
  obtain ⟨ds, rfl, h0⟩ := ckA s2
  obtain ⟨d1, r1, rfl, g1, h1⟩ := hasL_cons h0
  obtain ⟨n, rfl, a1, b1⟩ := has_i64 g1
  obtain ⟨d2, r2, rfl, g2, h2⟩ := hasL_cons h1
  obtain ⟨m, rfl, a2, b2⟩ := has_i64 g2
  obtain rfl := hasL_nil h2
  have c1 := light8 x
  by_cases h : rLight x = true ∧ s.length ≤ 100
  · rw [h.1] at c1
    have hl := light_of h.1
    have hb := light_rb h.1 hx hp
    have hd := rHeld_def x
    refine tak3 x hl.2.1 s h.2 n m _ _ _ _ (put_len (by omega) (by omega)) ?_ c1 (put11 x hb (by omega) n s (by omega)) (put12 x hb n s (by omega)) (read13 x hb (by omega) m) (read14 x hb m)
    unfold rRead
    split <;> show x.p.length < _ <;> omega
  · exact tak3n x _ s _ _ h c1
/-! ### Tells -/
set_option maxRecDepth 100000 in
set_option maxHeartbeats 1000000 in
theorem tel4z (x o : Rq) (hl : x.p.length ≤ 20) (hl2 : o.p.length ≤ 20) (most : Int) (e : Int) (K B : List Iv) (hK : K.length < 1000000) (hB : B.length < 1000000) (c1 : FnOK Try.prog 8 [.d (rqD x)] [] (.d (.bool true)) []) (c2 : FnOK Try.prog 8 [.d (rqD o)] [] (.d (.bool true)) []) (c3 : FnOK Try.prog 17 [.d (rqD x)] [] (.d (.int .i64 e)) []) (c4 : FnOK Try.prog 18 [.d (rqD x)] [] (.d (.int .i64 e)) []) (c5 : FnOK Try.prog 22 [.d (rqD x)] [] (.d (.sl (K.map ivD))) []) (c6 : FnOK Try.prog 23 [.d (rqD x)] [] (.d (.sl (K.map ivD))) []) (c7 : FnOK Try.prog 24 [.d (rqD x), .d (.int .i64 most)] [] (.d (.sl (B.map ivD))) []) (c8 : FnOK Try.prog 25 [.d (rqD x), .d (.int .i64 most)] [] (.d (.sl (B.map ivD))) []) (he : e ≠ 0) (c9 : True) (ca : True) (cb : True) (cc : True) : FnOK Try.prog 4 ([.d (rqD x), .d (rqD o), .d (.int .i64 most)]) ([]) (.d (.bool true)) ([]) := by
  refine fnOK_wp (p := (FnOK Try.prog (8 : Nat) [AV.d (D.agg [D.int IntKind.i64 x.b, D.str x.r, D.sl (List.map ptD x.p)])] [] (AV.d (D.bool true)) []) ∧ ((D.bool false = D.bool false) ∧ ((D.bool false = D.bool false) ∧ ((FnOK Try.prog (8 : Nat) [AV.d (D.agg [D.int IntKind.i64 o.b, D.str o.r, D.sl (List.map ptD o.p)])] [] (AV.d (D.bool true)) []) ∧ ((D.bool false = D.bool false) ∧ ((FnOK Try.prog (10 : Nat) [AV.d (D.agg [D.int IntKind.i64 x.b, D.str x.r, D.sl (List.map ptD x.p)])] [] (AV.d (D.agg [D.int IntKind.i64 x.b, D.str x.r, D.sl (List.map ptD x.p)])) []) ∧ ((FnOK Try.prog (17 : Nat) [AV.d (D.agg [D.int IntKind.i64 x.b, D.str x.r, D.sl (List.map ptD x.p)])] [] (AV.d (D.int IntKind.i64 e)) []) ∧ ((FnOK Try.prog (18 : Nat) [AV.d (D.agg [D.int IntKind.i64 x.b, D.str x.r, D.sl (List.map ptD x.p)])] [] (AV.d (D.int IntKind.i64 e)) []) ∧ ((D.bool (e != e) = D.bool false) ∧ ((D.bool false = D.bool false) ∧ ((FnOK Try.prog (10 : Nat) [AV.d (D.agg [D.int IntKind.i64 o.b, D.str o.r, D.sl (List.map ptD o.p)])] [] (AV.d (D.agg [D.int IntKind.i64 o.b, D.str o.r, D.sl (List.map ptD o.p)])) []) ∧ ((FnOK Try.prog (19 : Nat) [AV.d (D.agg [D.int IntKind.i64 x.b, D.str x.r, D.sl (List.map ptD x.p)]), AV.d (D.agg [D.int IntKind.i64 o.b, D.str o.r, D.sl (List.map ptD o.p)])] [] (AV.d (D.bool (decide (x = o)))) []) ∧ ((FnOK Try.prog (15 : Nat) [AV.d (D.agg [D.int IntKind.i64 x.b, D.str x.r, D.sl (List.map ptD x.p)]), AV.d (D.agg [D.int IntKind.i64 o.b, D.str o.r, D.sl (List.map ptD o.p)])] [] (AV.d (D.bool (decide (x = o)))) []) ∧ (((D.bool !decide (x = o) == decide (x = o)) = D.bool false) ∧ ((D.bool false = D.bool false) ∧ ((FnOK Try.prog (22 : Nat) [AV.d (D.agg [D.int IntKind.i64 x.b, D.str x.r, D.sl (List.map ptD x.p)])] [] (AV.d (D.sl (List.map ivD K))) []) ∧ ((FnOK Try.prog (21 : Nat) [AV.d (D.sl (List.map ivD K))] [] (AV.d (D.sl (List.map ivD K))) []) ∧ ((FnOK Try.prog (23 : Nat) [AV.d (D.agg [D.int IntKind.i64 x.b, D.str x.r, D.sl (List.map ptD x.p)])] [] (AV.d (D.sl (List.map ivD K))) []) ∧ ((FnOK Try.prog (20 : Nat) [AV.d (D.sl (List.map ivD K)), AV.d (D.sl (List.map ivD K))] [] (AV.d (D.bool true)) []) ∧ ((D.bool false = D.bool false) ∧ ((D.bool false = D.bool false) ∧ ((FnOK Try.prog (24 : Nat) [AV.d (D.agg [D.int IntKind.i64 x.b, D.str x.r, D.sl (List.map ptD x.p)]), AV.d (D.int IntKind.i64 most)] [] (AV.d (D.sl (List.map ivD B))) []) ∧ ((FnOK Try.prog (21 : Nat) [AV.d (D.sl (List.map ivD B))] [] (AV.d (D.sl (List.map ivD B))) []) ∧ ((FnOK Try.prog (25 : Nat) [AV.d (D.agg [D.int IntKind.i64 x.b, D.str x.r, D.sl (List.map ptD x.p)]), AV.d (D.int IntKind.i64 most)] [] (AV.d (D.sl (List.map ivD B))) []) ∧ ((FnOK Try.prog (20 : Nat) [AV.d (D.sl (List.map ivD B)), AV.d (D.sl (List.map ivD B))] [] (AV.d (D.bool true)) []) ∧ ((D.bool false = D.bool false) ∧ ((FnOK Try.prog (18 : Nat) [AV.d (D.agg [D.int IntKind.i64 x.b, D.str x.r, D.sl (List.map ptD x.p)])] [] (AV.d (D.int IntKind.i64 e)) []) ∧ ((D.bool (e != (0 : Int)) = D.bool true) ∧ ((D.bool true = D.bool true) ∧ ((D.bool true = D.bool true) ∧ ((FnOK Try.prog (30 : Nat) [] [] (AV.d (D.agg [D.int IntKind.i64 (0 : Int), D.str [], D.sl []])) []) ∧ ((FnOK Try.prog (16 : Nat) [AV.d (D.agg [D.int IntKind.i64 (0 : Int), D.str [], D.sl []])] [] (AV.d (D.agg [D.int IntKind.i64 (0 : Int), D.str [], D.sl []])) []) ∧ ((FnOK Try.prog (15 : Nat) [AV.d (D.agg [D.int IntKind.i64 (0 : Int), D.str [], D.sl []]), AV.d (D.agg [D.int IntKind.i64 (0 : Int), D.str [], D.sl []])] [] (AV.d (D.bool true)) []) ∧ ((D.bool true = D.bool true) ∧ ((FnOK Try.prog (9 : Nat) [] [] (AV.d (D.bool true)) []) ∧ ((AV.d (D.bool true) = AV.d (D.bool true)) ∧ (True))))))))))))))))))))))))))))))))))))) (h := {chain := true, H := [(1, [(2, .val (.bool false)), (6, .val (.bool false))]), (4, [(12, .call [] (.d (.bool (decide (x = o)))) []), (4, .val (.bool false)), (13, .val (.bool false)), (22, .val (.bool false)), (33, .val (.bool false))]), (6, [(2, .val (.bool true)), (3, .val (.bool true)), (21, .call [] (.d (.bool true)) [])])], G := [(8, gYes), (10, gId), (16, gId), (21, gId), (17, gAns (.d (.int .i64 e))), (18, gAns (.d (.int .i64 e))), (22, gAns (.d (.sl (K.map ivD)))), (23, gAns (.d (.sl (K.map ivD)))), (24, gAns (.d (.sl (B.map ivD)))), (25, gAns (.d (.sl (B.map ivD)))), (20, gYes), (19, gAns (.d (.bool (decide (x = o))))), (30, gAns (.d (rqD w0))), (9, gYes)]}) (subs := []) (ws := []) (ρ := []) (by kernel_rfl) ?_
  have d1 := own10 x (by omega)
  have d2 := own10 o (by omega)
  have d3 := same19 x o (by omega)
  have d4 := same15 x o (by omega)
  have d5 := back21 K hK
  have d6 := back21 B hB
  have d7 := ivs20 K K hK
  have d8 := ivs20 B B hB
  have d9 := new30
  have da := back16 w0 (by decide)
  have db := same15 w0 w0 (by decide)
  rw [decide_eq_true rfl] at d7 d8 db
  repeat' (first | with_reducible exact True.intro | with_reducible refine And.intro ?_ ?_ | with_reducible refine condP_dec (fun _ => ?_) (fun _ => ?_) | with_reducible refine condP_eq (fun _ => ?_) (fun _ => ?_) | with_reducible refine condP_ne (fun _ => ?_) (fun _ => ?_) | with_reducible refine condP_not (condP_dec (fun _ => ?_) (fun _ => ?_)) | with_reducible refine condP_not (condP_eq (fun _ => ?_) (fun _ => ?_)) | with_reducible refine condP_not (condP_intro (fun _ => ?_) (fun _ => ?_)) | with_reducible refine condP_intro (fun _ => ?_) (fun _ => ?_))
  all_goals first | exact c1 | exact c2 | exact c3 | exact c4 | exact c5 | exact c6 | exact c7 | exact c8 | exact c9 | exact ca | exact cb | exact cc | exact d1 | exact d2 | exact d3 | exact d4 | exact d5 | exact d6 | exact d7 | exact d8 | exact d9 | exact da | exact db | exact aw9 | rfl | omega | exact dno (by omega) | (refine congrArg D.bool ?_; simp; done) | (refine congrArg D.bool ?_; simpa using he) | skip

set_option maxRecDepth 100000 in
set_option maxHeartbeats 1000000 in
theorem tel4y (x o : Rq) (hl : x.p.length ≤ 20) (hl2 : o.p.length ≤ 20) (most : Int) (e : Int) (K B : List Iv) (hK : K.length < 1000000) (hB : B.length < 1000000) (c1 : FnOK Try.prog 8 [.d (rqD x)] [] (.d (.bool true)) []) (c2 : FnOK Try.prog 8 [.d (rqD o)] [] (.d (.bool true)) []) (c3 : FnOK Try.prog 17 [.d (rqD x)] [] (.d (.int .i64 e)) []) (c4 : FnOK Try.prog 18 [.d (rqD x)] [] (.d (.int .i64 e)) []) (c5 : FnOK Try.prog 22 [.d (rqD x)] [] (.d (.sl (K.map ivD))) []) (c6 : FnOK Try.prog 23 [.d (rqD x)] [] (.d (.sl (K.map ivD))) []) (c7 : FnOK Try.prog 24 [.d (rqD x), .d (.int .i64 most)] [] (.d (.sl (B.map ivD))) []) (c8 : FnOK Try.prog 25 [.d (rqD x), .d (.int .i64 most)] [] (.d (.sl (B.map ivD))) []) (he : e = 0) (lim hh : Int) (c9 : FnOK Try.prog 26 [.d (rqD x)] [] (.d (.int .i64 lim)) []) (ca : FnOK Try.prog 27 [.d (rqD x)] [] (.d (.int .i64 lim)) []) (cb : FnOK Try.prog 28 [.d (rqD x)] [] (.d (.int .i64 hh)) []) (cc : FnOK Try.prog 29 [.d (rqD x)] [] (.d (.int .i64 hh)) []) : FnOK Try.prog 4 ([.d (rqD x), .d (rqD o), .d (.int .i64 most)]) ([]) (.d (.bool true)) ([]) := by
  refine fnOK_wp (p := (FnOK Try.prog (8 : Nat) [AV.d (D.agg [D.int IntKind.i64 x.b, D.str x.r, D.sl (List.map ptD x.p)])] [] (AV.d (D.bool true)) []) ∧ ((D.bool false = D.bool false) ∧ ((D.bool false = D.bool false) ∧ ((FnOK Try.prog (8 : Nat) [AV.d (D.agg [D.int IntKind.i64 o.b, D.str o.r, D.sl (List.map ptD o.p)])] [] (AV.d (D.bool true)) []) ∧ ((D.bool false = D.bool false) ∧ ((FnOK Try.prog (10 : Nat) [AV.d (D.agg [D.int IntKind.i64 x.b, D.str x.r, D.sl (List.map ptD x.p)])] [] (AV.d (D.agg [D.int IntKind.i64 x.b, D.str x.r, D.sl (List.map ptD x.p)])) []) ∧ ((FnOK Try.prog (17 : Nat) [AV.d (D.agg [D.int IntKind.i64 x.b, D.str x.r, D.sl (List.map ptD x.p)])] [] (AV.d (D.int IntKind.i64 e)) []) ∧ ((FnOK Try.prog (18 : Nat) [AV.d (D.agg [D.int IntKind.i64 x.b, D.str x.r, D.sl (List.map ptD x.p)])] [] (AV.d (D.int IntKind.i64 e)) []) ∧ ((D.bool (e != e) = D.bool false) ∧ ((D.bool false = D.bool false) ∧ ((FnOK Try.prog (10 : Nat) [AV.d (D.agg [D.int IntKind.i64 o.b, D.str o.r, D.sl (List.map ptD o.p)])] [] (AV.d (D.agg [D.int IntKind.i64 o.b, D.str o.r, D.sl (List.map ptD o.p)])) []) ∧ ((FnOK Try.prog (19 : Nat) [AV.d (D.agg [D.int IntKind.i64 x.b, D.str x.r, D.sl (List.map ptD x.p)]), AV.d (D.agg [D.int IntKind.i64 o.b, D.str o.r, D.sl (List.map ptD o.p)])] [] (AV.d (D.bool (decide (x = o)))) []) ∧ ((FnOK Try.prog (15 : Nat) [AV.d (D.agg [D.int IntKind.i64 x.b, D.str x.r, D.sl (List.map ptD x.p)]), AV.d (D.agg [D.int IntKind.i64 o.b, D.str o.r, D.sl (List.map ptD o.p)])] [] (AV.d (D.bool (decide (x = o)))) []) ∧ (((D.bool !decide (x = o) == decide (x = o)) = D.bool false) ∧ ((D.bool false = D.bool false) ∧ ((FnOK Try.prog (22 : Nat) [AV.d (D.agg [D.int IntKind.i64 x.b, D.str x.r, D.sl (List.map ptD x.p)])] [] (AV.d (D.sl (List.map ivD K))) []) ∧ ((FnOK Try.prog (21 : Nat) [AV.d (D.sl (List.map ivD K))] [] (AV.d (D.sl (List.map ivD K))) []) ∧ ((FnOK Try.prog (23 : Nat) [AV.d (D.agg [D.int IntKind.i64 x.b, D.str x.r, D.sl (List.map ptD x.p)])] [] (AV.d (D.sl (List.map ivD K))) []) ∧ ((FnOK Try.prog (20 : Nat) [AV.d (D.sl (List.map ivD K)), AV.d (D.sl (List.map ivD K))] [] (AV.d (D.bool true)) []) ∧ ((D.bool false = D.bool false) ∧ ((D.bool false = D.bool false) ∧ ((FnOK Try.prog (24 : Nat) [AV.d (D.agg [D.int IntKind.i64 x.b, D.str x.r, D.sl (List.map ptD x.p)]), AV.d (D.int IntKind.i64 most)] [] (AV.d (D.sl (List.map ivD B))) []) ∧ ((FnOK Try.prog (21 : Nat) [AV.d (D.sl (List.map ivD B))] [] (AV.d (D.sl (List.map ivD B))) []) ∧ ((FnOK Try.prog (25 : Nat) [AV.d (D.agg [D.int IntKind.i64 x.b, D.str x.r, D.sl (List.map ptD x.p)]), AV.d (D.int IntKind.i64 most)] [] (AV.d (D.sl (List.map ivD B))) []) ∧ ((FnOK Try.prog (20 : Nat) [AV.d (D.sl (List.map ivD B)), AV.d (D.sl (List.map ivD B))] [] (AV.d (D.bool true)) []) ∧ ((D.bool false = D.bool false) ∧ ((FnOK Try.prog (18 : Nat) [AV.d (D.agg [D.int IntKind.i64 x.b, D.str x.r, D.sl (List.map ptD x.p)])] [] (AV.d (D.int IntKind.i64 e)) []) ∧ ((D.bool (e != (0 : Int)) = D.bool false) ∧ ((D.bool false = D.bool false) ∧ ((FnOK Try.prog (26 : Nat) [AV.d (D.agg [D.int IntKind.i64 x.b, D.str x.r, D.sl (List.map ptD x.p)])] [] (AV.d (D.int IntKind.i64 lim)) []) ∧ ((FnOK Try.prog (27 : Nat) [AV.d (D.agg [D.int IntKind.i64 x.b, D.str x.r, D.sl (List.map ptD x.p)])] [] (AV.d (D.int IntKind.i64 lim)) []) ∧ ((D.bool (lim == lim) = D.bool true) ∧ ((D.bool true = D.bool true) ∧ ((FnOK Try.prog (28 : Nat) [AV.d (D.agg [D.int IntKind.i64 x.b, D.str x.r, D.sl (List.map ptD x.p)])] [] (AV.d (D.int IntKind.i64 hh)) []) ∧ ((FnOK Try.prog (29 : Nat) [AV.d (D.agg [D.int IntKind.i64 x.b, D.str x.r, D.sl (List.map ptD x.p)])] [] (AV.d (D.int IntKind.i64 hh)) []) ∧ ((D.bool (hh == hh) = D.bool true) ∧ ((D.bool true = D.bool true) ∧ ((FnOK Try.prog (30 : Nat) [] [] (AV.d (D.agg [D.int IntKind.i64 (0 : Int), D.str [], D.sl []])) []) ∧ ((FnOK Try.prog (16 : Nat) [AV.d (D.agg [D.int IntKind.i64 (0 : Int), D.str [], D.sl []])] [] (AV.d (D.agg [D.int IntKind.i64 (0 : Int), D.str [], D.sl []])) []) ∧ ((FnOK Try.prog (15 : Nat) [AV.d (D.agg [D.int IntKind.i64 (0 : Int), D.str [], D.sl []]), AV.d (D.agg [D.int IntKind.i64 (0 : Int), D.str [], D.sl []])] [] (AV.d (D.bool true)) []) ∧ ((D.bool true = D.bool true) ∧ ((FnOK Try.prog (9 : Nat) [] [] (AV.d (D.bool true)) []) ∧ ((AV.d (D.bool true) = AV.d (D.bool true)) ∧ (True)))))))))))))))))))))))))))))))))))))))))))) (h := {chain := true, H := [(1, [(2, .val (.bool false)), (6, .val (.bool false))]), (4, [(12, .call [] (.d (.bool (decide (x = o)))) []), (4, .val (.bool false)), (13, .val (.bool false)), (22, .val (.bool false)), (33, .val (.bool false))]), (6, [(2, .val (.bool false)), (8, .val (.bool true)), (14, .val (.bool true)), (21, .call [] (.d (.bool true)) [])])], G := [(8, gYes), (10, gId), (16, gId), (21, gId), (17, gAns (.d (.int .i64 e))), (18, gAns (.d (.int .i64 e))), (22, gAns (.d (.sl (K.map ivD)))), (23, gAns (.d (.sl (K.map ivD)))), (24, gAns (.d (.sl (B.map ivD)))), (25, gAns (.d (.sl (B.map ivD)))), (20, gYes), (19, gAns (.d (.bool (decide (x = o))))), (30, gAns (.d (rqD w0))), (9, gYes), (26, gAns (.d (.int .i64 lim))), (27, gAns (.d (.int .i64 lim))), (28, gAns (.d (.int .i64 hh))), (29, gAns (.d (.int .i64 hh)))]}) (subs := []) (ws := []) (ρ := []) (by kernel_rfl) ?_
  have d1 := own10 x (by omega)
  have d2 := own10 o (by omega)
  have d3 := same19 x o (by omega)
  have d4 := same15 x o (by omega)
  have d5 := back21 K hK
  have d6 := back21 B hB
  have d7 := ivs20 K K hK
  have d8 := ivs20 B B hB
  have d9 := new30
  have da := back16 w0 (by decide)
  have db := same15 w0 w0 (by decide)
  rw [decide_eq_true rfl] at d7 d8 db
  repeat' (first | with_reducible exact True.intro | with_reducible refine And.intro ?_ ?_ | with_reducible refine condP_dec (fun _ => ?_) (fun _ => ?_) | with_reducible refine condP_eq (fun _ => ?_) (fun _ => ?_) | with_reducible refine condP_ne (fun _ => ?_) (fun _ => ?_) | with_reducible refine condP_not (condP_dec (fun _ => ?_) (fun _ => ?_)) | with_reducible refine condP_not (condP_eq (fun _ => ?_) (fun _ => ?_)) | with_reducible refine condP_not (condP_intro (fun _ => ?_) (fun _ => ?_)) | with_reducible refine condP_intro (fun _ => ?_) (fun _ => ?_))
  all_goals first | exact c1 | exact c2 | exact c3 | exact c4 | exact c5 | exact c6 | exact c7 | exact c8 | exact c9 | exact ca | exact cb | exact cc | exact d1 | exact d2 | exact d3 | exact d4 | exact d5 | exact d6 | exact d7 | exact d8 | exact d9 | exact da | exact db | exact aw9 | rfl | omega | exact dno (by omega) | (refine congrArg D.bool ?_; simp; done) | (refine congrArg D.bool ?_; simpa using he) | skip

set_option maxRecDepth 100000 in
set_option maxHeartbeats 1000000 in
theorem tel4n (x o : Rq) (q r : Bool) (n : D) (h : ¬(q = true ∧ r = true)) (c1 : FnOK Try.prog 8 [.d (rqD x)] [] (.d (.bool q)) []) (c2 : FnOK Try.prog 8 [.d (rqD o)] [] (.d (.bool r)) []) : FnOK Try.prog 4 ([.d (rqD x), .d (rqD o), .d n]) ([]) (.d (.bool true)) ([]) := by
  refine fnOK_wp (p := condP (!q) ((FnOK Try.prog (8 : Nat) [AV.d (D.agg [D.int IntKind.i64 x.b, D.str x.r, D.sl (List.map ptD x.p)])] [] (AV.d (D.bool q)) []) ∧ (((D.bool !q) = D.bool true) ∧ ((FnOK Try.prog (9 : Nat) [] [] (AV.d (D.bool true)) []) ∧ ((AV.d (D.bool true) = AV.d (D.bool true)) ∧ (True))))) ((FnOK Try.prog (8 : Nat) [AV.d (D.agg [D.int IntKind.i64 x.b, D.str x.r, D.sl (List.map ptD x.p)])] [] (AV.d (D.bool q)) []) ∧ (((D.bool !q) = D.bool false) ∧ ((FnOK Try.prog (8 : Nat) [AV.d (D.agg [D.int IntKind.i64 o.b, D.str o.r, D.sl (List.map ptD o.p)])] [] (AV.d (D.bool r)) []) ∧ (condP (!r) ((FnOK Try.prog (9 : Nat) [] [] (AV.d (D.bool true)) []) ∧ ((AV.d (D.bool true) = AV.d (D.bool true)) ∧ (True))) (False)))))) (h := {H := [(1, [(1, .call [] (.d (.bool q)) []), (5, .call [] (.d (.bool r)) [])]), (3, [(1, .call [] (.d (.bool r)) [])])], G := [(9, gYes)]}) (subs := []) (ws := []) (ρ := []) (by kernel_rfl) ?_
  repeat' (first | with_reducible exact True.intro | with_reducible refine And.intro ?_ ?_ | with_reducible refine condP_dec (fun _ => ?_) (fun _ => ?_) | with_reducible refine condP_eq (fun _ => ?_) (fun _ => ?_) | with_reducible refine condP_ne (fun _ => ?_) (fun _ => ?_) | with_reducible refine condP_not (condP_dec (fun _ => ?_) (fun _ => ?_)) | with_reducible refine condP_not (condP_eq (fun _ => ?_) (fun _ => ?_)) | with_reducible refine condP_not (condP_intro (fun _ => ?_) (fun _ => ?_)) | with_reducible refine condP_intro (fun _ => ?_) (fun _ => ?_))
  all_goals first | exact c1 | exact c2 | exact aw9 | rfl | (exfalso; simp_all; done) | (refine congrArg D.bool ?_; simp_all; done) | skip

theorem recvqTells_ok (x0 : D) (s0 : ∃ ds, CK.hasL [.int .i64, .str, .sl true [.int .i64, .str]] ds ∧ (if true then x0 = .agg ds else ds = [x0])) (x1 : D) (s1 : ∃ ds, CK.hasL [.int .i64, .str, .sl true [.int .i64, .str]] ds ∧ (if true then x1 = .agg ds else ds = [x1])) (x2 : D) (s2 : ∃ ds, CK.hasL [.int .i64] ds ∧ (if false then x2 = .agg ds else ds = [x2])) :
    FnOK Try.prog 4 [.d x0, .d x1, .d x2] [] (.d (.bool true)) [] := by
  obtain ⟨x, rfl, hx, hp⟩ := rq_of x0 s0
  obtain ⟨o, rfl, ho, hop⟩ := rq_of x1 s1
  obtain ⟨n, rfl, a1, b1⟩ := has_i64 (ck1 s2)
  have c1 := light8 x
  have c2 := light8 o
  by_cases h : rLight x = true ∧ rLight o = true
  · rw [h.1] at c1
    rw [h.2] at c2
    have hl := light_of h.1
    have hl2 := light_of h.2
    have hb := light_rb h.1 hx hp
    have hd := rHeld_def x
    have hK : (rCame x).length < 1000000 := by
      unfold rCame
      split
      · rw [List.length_map]; omega
      · decide
    have hB : (rBlk x n).length < 1000000 := by
      unfold rBlk
      split
      · rw [List.length_take, List.length_map]; omega
      · decide
    by_cases he : rChk x = 0
    · have hk := (ok_iff.1 he).b
      exact tel4y x o hl.2.1 hl2.2.1 n _ _ _ hK hB c1 c2 (chk17 x hb) (chk18 x hb) (came22 x hb) (came23 x hb) (blk24 x hb n) (blk25 x hb n) he _ _ (lim26 x hk.1 hk.2.1 (by omega)) (lim27 x hk.1 hk.2.1 (by omega)) (held28 x (by omega) (by omega)) (held29 x (by omega) (by omega))
    · exact tel4z x o hl.2.1 hl2.2.1 n _ _ _ hK hB c1 c2 (chk17 x hb) (chk18 x hb) (came22 x hb) (came23 x hb) (blk24 x hb n) (blk25 x hb n) he trivial trivial trivial trivial
  · exact tel4n x o _ _ _ h c1 c2
end Go.Proofs.Ytmnglolholdmaaa
