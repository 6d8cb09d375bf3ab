import Derived.Test.YtfllhedkgeljaaaM2
import Derived.Test.YtfllhedkgeljaaaC06S16

/-
laws 11: the document's: what is sent next.
-/
set_option linter.unusedSimpArgs false
set_option linter.unusedVariables false
namespace Go.Proofs.Ytfllhedkgeljaaa
open Sx Go.RowKit C06

set_option maxRecDepth 100000 in
set_option maxHeartbeats 1000000 in
theorem pick13a (s : Sq) (now win limit : Int) (e : Int) (k3 : FnOK Try.prog 23 [.d (sqD s)] [] (.d (.int .i64 e)) []) (h : e ≠ 0 ∨ now < 0 ∨ now > 1099511627776) : FnOK Try.prog 13 ([.d (sqD s), .d (.int .i64 now), .d (.int .i64 win), .d (.int .i64 limit)]) ([]) (.tup [.d (sqD s), .d (ckD ck0), .d (.str [])]) ([]) := by
  refine fnOK_wp (p := condP (e != (0 : Int)) ((FnOK Try.prog 23 [AV.d (.agg [D.int .i64 s.b, D.str s.d, D.int .i64 s.n, D.sl (List.map ckD s.fl), D.sl (List.map ivD s.cm)])] [] (AV.d (.int .i64 e)) []) ∧ ((D.bool (e != (0 : Int)) = D.bool true) ∧ ((D.bool true = D.bool true) ∧ ((D.bool true = D.bool true) ∧ ((AV.tup [AV.d (.agg [D.int .i64 s.b, D.str s.d, D.int .i64 s.n, D.sl (List.map ckD s.fl), D.sl (List.map ivD s.cm)]), AV.d (.agg [D.int .i64 (0 : Int), D.int .i64 (0 : Int), D.int .i64 (0 : Int), D.int .i64 (0 : Int), D.bool false]), AV.d (.str [])] = AV.tup [AV.d (.agg [D.int .i64 s.b, D.str s.d, D.int .i64 s.n, D.sl (List.map ckD s.fl), D.sl (List.map ivD s.cm)]), AV.d (.agg [D.int .i64 (0 : Int), D.int .i64 (0 : Int), D.int .i64 (0 : Int), D.int .i64 (0 : Int), D.bool false]), AV.d (.str [])]) ∧ (True)))))) (condP (decide (now < (0 : Int))) ((FnOK Try.prog 23 [AV.d (.agg [D.int .i64 s.b, D.str s.d, D.int .i64 s.n, D.sl (List.map ckD s.fl), D.sl (List.map ivD s.cm)])] [] (AV.d (.int .i64 e)) []) ∧ ((D.bool (e != (0 : Int)) = D.bool false) ∧ ((D.bool (decide (now < (0 : Int))) = D.bool true) ∧ ((D.bool true = D.bool true) ∧ ((AV.tup [AV.d (.agg [D.int .i64 s.b, D.str s.d, D.int .i64 s.n, D.sl (List.map ckD s.fl), D.sl (List.map ivD s.cm)]), AV.d (.agg [D.int .i64 (0 : Int), D.int .i64 (0 : Int), D.int .i64 (0 : Int), D.int .i64 (0 : Int), D.bool false]), AV.d (.str [])] = AV.tup [AV.d (.agg [D.int .i64 s.b, D.str s.d, D.int .i64 s.n, D.sl (List.map ckD s.fl), D.sl (List.map ivD s.cm)]), AV.d (.agg [D.int .i64 (0 : Int), D.int .i64 (0 : Int), D.int .i64 (0 : Int), D.int .i64 (0 : Int), D.bool false]), AV.d (.str [])]) ∧ (True)))))) ((FnOK Try.prog 23 [AV.d (.agg [D.int .i64 s.b, D.str s.d, D.int .i64 s.n, D.sl (List.map ckD s.fl), D.sl (List.map ivD s.cm)])] [] (AV.d (.int .i64 e)) []) ∧ ((D.bool (e != (0 : Int)) = D.bool false) ∧ ((D.bool (decide (now < (0 : Int))) = D.bool false) ∧ ((D.bool (decide (now > (1099511627776 : Int))) = D.bool true) ∧ ((AV.tup [AV.d (.agg [D.int .i64 s.b, D.str s.d, D.int .i64 s.n, D.sl (List.map ckD s.fl), D.sl (List.map ivD s.cm)]), AV.d (.agg [D.int .i64 (0 : Int), D.int .i64 (0 : Int), D.int .i64 (0 : Int), D.int .i64 (0 : Int), D.bool false]), AV.d (.str [])] = AV.tup [AV.d (.agg [D.int .i64 s.b, D.str s.d, D.int .i64 s.n, D.sl (List.map ckD s.fl), D.sl (List.map ivD s.cm)]), AV.d (.agg [D.int .i64 (0 : Int), D.int .i64 (0 : Int), D.int .i64 (0 : Int), D.int .i64 (0 : Int), D.bool false]), AV.d (.str [])]) ∧ (True)))))))) (h := {H := [(1, [(1, .call [] (.d (.int .i64 e)) []), (10, .val (.bool true))])]}) (subs := []) (ws := []) (ρ := []) (by kernel_rfl) ?_
  repeat' (with_reducible first | exact True.intro | apply And.intro | (first | apply zA | apply zB | apply zC | apply zD | apply zE | apply zF | apply zG) <;> intro)
  all_goals first | exact k3 | rfl | omega | exact dyes (by omega) | (refine congrArg D.bool ?_; simp_all; done) | (exfalso; omega) | (exfalso; simp_all; omega) | skip

set_option maxRecDepth 100000 in
set_option maxHeartbeats 1000000 in
theorem pick13c (s : Sq) (now win limit : Int) (e : Int) (k3 : FnOK Try.prog 23 [.d (sqD s)] [] (.d (.int .i64 e)) []) (he : e = 0) (ht : 0 ≤ now ∧ now ≤ 1099511627776) (f : Int) (k4 : FnOK Try.prog 25 [.d (sqD s)] [] (.d (.int .i64 f)) []) (i : Nat) (c : Ck) (hn : s.fl[i]? = some c) (k5 : FnOK Try.prog 40 [.d (sqD s)] [] (.d (.int .i64 i)) []) (hf1 : IntKind.i64.wrap (IntKind.i64.wrap (f + c.t) - c.f) = f + (c.t - c.f)) (hf0 : 0 ≤ f) (hw : ¬(f = 0 ∨ f + (c.t - c.f) ≤ win)) (k6 k7 : True) : FnOK Try.prog 13 ([.d (sqD s), .d (.int .i64 now), .d (.int .i64 win), .d (.int .i64 limit)]) ([]) (.tup [.d (sqD s), .d (ckD ck0), .d (.str [])]) ([]) := by
  refine fnOK_wp (p := (FnOK Try.prog 23 [AV.d (.agg [D.int .i64 s.b, D.str s.d, D.int .i64 s.n, D.sl (List.map ckD s.fl), D.sl (List.map ivD s.cm)])] [] (AV.d (.int .i64 e)) []) ∧ ((D.bool (e != (0 : Int)) = D.bool false) ∧ ((D.bool (decide (now < (0 : Int))) = D.bool false) ∧ ((D.bool (decide (now > (1099511627776 : Int))) = D.bool false) ∧ ((FnOK Try.prog 25 [AV.d (.agg [D.int .i64 s.b, D.str s.d, D.int .i64 s.n, D.sl (List.map ckD s.fl), D.sl (List.map ivD s.cm)])] [] (AV.d (.int .i64 f)) []) ∧ ((FnOK Try.prog 40 [AV.d (.agg [D.int .i64 s.b, D.str s.d, D.int .i64 s.n, D.sl (List.map ckD s.fl), D.sl (List.map ivD s.cm)])] [] (AV.d (.int .i64 (↑i : Int))) []) ∧ ((D.bool true = D.bool true) ∧ (((0 : Int) ≤ (↑i : Int)) ∧ (((List.map ckD s.fl)[(↑i : Int).toNat]? = some (D.agg [D.int .i64 c.f, D.int .i64 c.t, D.int .i64 c.s, D.int .i64 c.r, D.bool c.l])) ∧ ((D.bool (decide (f > (0 : Int))) = D.bool true) ∧ ((D.bool (decide (IntKind.i64.wrap (IntKind.i64.wrap (f + c.t) - c.f) > win)) = D.bool true) ∧ ((AV.tup [AV.d (.agg [D.int .i64 s.b, D.str s.d, D.int .i64 s.n, D.sl (List.map ckD s.fl), D.sl (List.map ivD s.cm)]), AV.d (.agg [D.int .i64 (0 : Int), D.int .i64 (0 : Int), D.int .i64 (0 : Int), D.int .i64 (0 : Int), D.bool false]), AV.d (.str [])] = AV.tup [AV.d (.agg [D.int .i64 s.b, D.str s.d, D.int .i64 s.n, D.sl (List.map ckD s.fl), D.sl (List.map ivD s.cm)]), AV.d (.agg [D.int .i64 (0 : Int), D.int .i64 (0 : Int), D.int .i64 (0 : Int), D.int .i64 (0 : Int), D.bool false]), AV.d (.str [])]) ∧ (True))))))))))))) (h := {els := [(38, .el (ckD c))], H := [(1, [(1, .call [] (.d (.int .i64 e)) []), (3, .val (.bool false)), (7, .val (.bool false)), (10, .val (.bool false))]), (3, [(1, .call [] (.d (.int .i64 f)) [])]), (4, [(1, .call [] (.d (.int .i64 i)) [])]), (5, [(1, .val (.bool true))]), (7, [(2, .val (.bool true)), (12, .val (.bool true))])]}) (subs := []) (ws := []) (ρ := []) (by kernel_rfl) ?_
  have hj := get_lt hn
  simp only [hf1] at *
  repeat' (with_reducible first | exact True.intro | apply And.intro | (first | apply zA | apply zB | apply zC | apply zD | apply zE | apply zF | apply zG) <;> intro)
  all_goals first | exact k3 | exact k4 | exact k5 | exact k6 | exact k7 | exact el_map hn rfl | rfl | omega | exact dyes (by omega) | exact dno (by omega) | (refine congrArg D.bool ?_; simp [he]; done) | (rw [List.length_map]; omega) | (exfalso; omega) | skip

set_option maxRecDepth 100000 in
set_option maxHeartbeats 1000000 in
theorem pick13d (s : Sq) (now win limit : Int) (e : Int) (k3 : FnOK Try.prog 23 [.d (sqD s)] [] (.d (.int .i64 e)) []) (he : e = 0) (ht : 0 ≤ now ∧ now ≤ 1099511627776) (f : Int) (k4 : FnOK Try.prog 25 [.d (sqD s)] [] (.d (.int .i64 f)) []) (i : Nat) (c : Ck) (hn : s.fl[i]? = some c) (k5 : FnOK Try.prog 40 [.d (sqD s)] [] (.d (.int .i64 i)) []) (hf1 : IntKind.i64.wrap (IntKind.i64.wrap (f + c.t) - c.f) = f + (c.t - c.f)) (hf0 : 0 ≤ f) (hw : f = 0 ∨ f + (c.t - c.f) ≤ win) (t : List UInt8) (k6 : FnOK Try.prog 41 [.d (.sl (s.fl.map ckD)), .d (.int .i64 i), .d (ckD (again c now))] [] (.d (.sl ((s.fl.set i (again c now)).map ckD))) []) (k7 : FnOK Try.prog 42 [.d (sqD { s with fl := s.fl.set i (again c now) }), .d (ckD (again c now))] [] (.d (.str t)) []) : FnOK Try.prog 13 ([.d (sqD s), .d (.int .i64 now), .d (.int .i64 win), .d (.int .i64 limit)]) ([]) (.tup [.d (sqD { s with fl := s.fl.set i (again c now) }), .d (ckD (again c now)), .d (.str t)]) ([]) := by
  refine fnOK_wp (p := (FnOK Try.prog 23 [AV.d (.agg [D.int .i64 s.b, D.str s.d, D.int .i64 s.n, D.sl (List.map ckD s.fl), D.sl (List.map ivD s.cm)])] [] (AV.d (.int .i64 e)) []) ∧ ((D.bool (e != (0 : Int)) = D.bool false) ∧ ((D.bool (decide (now < (0 : Int))) = D.bool false) ∧ ((D.bool (decide (now > (1099511627776 : Int))) = D.bool false) ∧ ((FnOK Try.prog 25 [AV.d (.agg [D.int .i64 s.b, D.str s.d, D.int .i64 s.n, D.sl (List.map ckD s.fl), D.sl (List.map ivD s.cm)])] [] (AV.d (.int .i64 f)) []) ∧ ((FnOK Try.prog 40 [AV.d (.agg [D.int .i64 s.b, D.str s.d, D.int .i64 s.n, D.sl (List.map ckD s.fl), D.sl (List.map ivD s.cm)])] [] (AV.d (.int .i64 (↑i : Int))) []) ∧ ((D.bool true = D.bool true) ∧ (((0 : Int) ≤ (↑i : Int)) ∧ (((List.map ckD s.fl)[(↑i : Int).toNat]? = some (D.agg [D.int .i64 c.f, D.int .i64 c.t, D.int .i64 c.s, D.int .i64 c.r, D.bool c.l])) ∧ (condP (decide (f > (0 : Int))) ((D.bool (decide (f > (0 : Int))) = D.bool true) ∧ ((D.bool (decide (IntKind.i64.wrap (IntKind.i64.wrap (f + c.t) - c.f) > win)) = D.bool false) ∧ ((D.int .i64 (min (1073741824 : Int) (IntKind.i64.wrap (c.r + (1 : Int)))) = D.int .i64 (min (IntKind.i64.wrap (c.r + (1 : Int))) (1073741824 : Int))) ∧ ((FnOK Try.prog 41 [AV.d (.sl (List.map ckD s.fl)), AV.d (.int .i64 (↑i : Int)), AV.d (.agg [D.int .i64 c.f, D.int .i64 c.t, D.int .i64 now, D.int .i64 (min (IntKind.i64.wrap (c.r + (1 : Int))) (1073741824 : Int)), D.bool false])] [] (AV.d (.sl (List.map ckD (s.fl.set i (again c now))))) []) ∧ ((FnOK Try.prog 42 [AV.d (.agg [D.int .i64 s.b, D.str s.d, D.int .i64 s.n, D.sl (List.map ckD (s.fl.set i (again c now))), D.sl (List.map ivD s.cm)]), AV.d (.agg [D.int .i64 c.f, D.int .i64 c.t, D.int .i64 now, D.int .i64 (min (IntKind.i64.wrap (c.r + (1 : Int))) (1073741824 : Int)), D.bool false])] [] (AV.d (.str t)) []) ∧ ((AV.tup [AV.d (.agg [D.int .i64 s.b, D.str s.d, D.int .i64 s.n, D.sl (List.map ckD (s.fl.set i (again c now))), D.sl (List.map ivD s.cm)]), AV.d (.agg [D.int .i64 c.f, D.int .i64 c.t, D.int .i64 now, D.int .i64 (min (IntKind.i64.wrap (c.r + (1 : Int))) (1073741824 : Int)), D.bool false]), AV.d (.str t)] = AV.tup [AV.d (.agg [D.int .i64 (Sq.mk s.b s.d s.n (s.fl.set i (again c now)) s.cm).b, D.str (Sq.mk s.b s.d s.n (s.fl.set i (again c now)) s.cm).d, D.int .i64 (Sq.mk s.b s.d s.n (s.fl.set i (again c now)) s.cm).n, D.sl (List.map ckD (Sq.mk s.b s.d s.n (s.fl.set i (again c now)) s.cm).fl), D.sl (List.map ivD (Sq.mk s.b s.d s.n (s.fl.set i (again c now)) s.cm).cm)]), AV.d (.agg [D.int .i64 (again c now).f, D.int .i64 (again c now).t, D.int .i64 (again c now).s, D.int .i64 (again c now).r, D.bool false]), AV.d (.str t)]) ∧ (True))))))) ((D.bool (decide (f > (0 : Int))) = D.bool false) ∧ ((D.bool false = D.bool false) ∧ ((D.int .i64 (min (1073741824 : Int) (IntKind.i64.wrap (c.r + (1 : Int)))) = D.int .i64 (min (IntKind.i64.wrap (c.r + (1 : Int))) (1073741824 : Int))) ∧ ((FnOK Try.prog 41 [AV.d (.sl (List.map ckD s.fl)), AV.d (.int .i64 (↑i : Int)), AV.d (.agg [D.int .i64 c.f, D.int .i64 c.t, D.int .i64 now, D.int .i64 (min (IntKind.i64.wrap (c.r + (1 : Int))) (1073741824 : Int)), D.bool false])] [] (AV.d (.sl (List.map ckD (s.fl.set i (again c now))))) []) ∧ ((FnOK Try.prog 42 [AV.d (.agg [D.int .i64 s.b, D.str s.d, D.int .i64 s.n, D.sl (List.map ckD (s.fl.set i (again c now))), D.sl (List.map ivD s.cm)]), AV.d (.agg [D.int .i64 c.f, D.int .i64 c.t, D.int .i64 now, D.int .i64 (min (IntKind.i64.wrap (c.r + (1 : Int))) (1073741824 : Int)), D.bool false])] [] (AV.d (.str t)) []) ∧ ((AV.tup [AV.d (.agg [D.int .i64 s.b, D.str s.d, D.int .i64 s.n, D.sl (List.map ckD (s.fl.set i (again c now))), D.sl (List.map ivD s.cm)]), AV.d (.agg [D.int .i64 c.f, D.int .i64 c.t, D.int .i64 now, D.int .i64 (min (IntKind.i64.wrap (c.r + (1 : Int))) (1073741824 : Int)), D.bool false]), AV.d (.str t)] = AV.tup [AV.d (.agg [D.int .i64 (Sq.mk s.b s.d s.n (s.fl.set i (again c now)) s.cm).b, D.str (Sq.mk s.b s.d s.n (s.fl.set i (again c now)) s.cm).d, D.int .i64 (Sq.mk s.b s.d s.n (s.fl.set i (again c now)) s.cm).n, D.sl (List.map ckD (Sq.mk s.b s.d s.n (s.fl.set i (again c now)) s.cm).fl), D.sl (List.map ivD (Sq.mk s.b s.d s.n (s.fl.set i (again c now)) s.cm).cm)]), AV.d (.agg [D.int .i64 (again c now).f, D.int .i64 (again c now).t, D.int .i64 (again c now).s, D.int .i64 (again c now).r, D.bool false]), AV.d (.str t)]) ∧ (True))))))))))))))))) (h := {els := [(38, .el (ckD c))], H := [(1, [(1, .call [] (.d (.int .i64 e)) []), (3, .val (.bool false)), (7, .val (.bool false)), (10, .val (.bool false))]), (3, [(1, .call [] (.d (.int .i64 f)) [])]), (4, [(1, .call [] (.d (.int .i64 i)) [])]), (5, [(1, .val (.bool true))]), (7, [(12, .val (.bool false))]), (9, [(4, .val (.int .i64 (min (IntKind.i64.wrap (c.r + 1)) 1073741824)))]), (10, [(4, .call [] (.d (.sl ((s.fl.set i (again c now)).map ckD))) [])]), (11, [(4, .call [] (.d (.str t)) [])])]}) (subs := []) (ws := []) (ρ := []) (by kernel_rfl) ?_
  have hmn : D.int .i64 (min 1073741824 (IntKind.i64.wrap (c.r + 1))) = D.int .i64 (min (IntKind.i64.wrap (c.r + 1)) 1073741824) := by rw [Int.min_comm]
  have hj := get_lt hn
  simp only [hf1] at *
  repeat' (with_reducible first | exact True.intro | apply And.intro | (first | apply zA | apply zB | apply zC | apply zD | apply zE | apply zF | apply zG) <;> intro)
  all_goals first | exact k3 | exact k4 | exact k5 | exact k6 | exact k7 | exact hmn | exact el_map hn rfl | rfl | omega | exact dyes (by omega) | exact dno (by omega) | (refine congrArg D.bool ?_; simp [he]; done) | (rw [List.length_map]; omega) | (exfalso; omega) | skip

set_option maxRecDepth 100000 in
set_option maxHeartbeats 1000000 in
theorem pick13e (s : Sq) (now win limit : Int) (e : Int) (k3 : FnOK Try.prog 23 [.d (sqD s)] [] (.d (.int .i64 e)) []) (he : e = 0) (ht : 0 ≤ now ∧ now ≤ 1099511627776) (f : Int) (k4 : FnOK Try.prog 25 [.d (sqD s)] [] (.d (.int .i64 f)) []) (k5 : FnOK Try.prog 40 [.d (sqD s)] [] (.d (.int .i64 (-1))) []) (l : Int) (hl : IntKind.i64.wrap (IntKind.i64.wrap (s.b + (s.d.length : Int)) - s.n) = l) (hw : l = 0 ∨ win ≤ f ∨ limit ≤ s.n) : FnOK Try.prog 13 ([.d (sqD s), .d (.int .i64 now), .d (.int .i64 win), .d (.int .i64 limit)]) ([]) (.tup [.d (sqD s), .d (ckD ck0), .d (.str [])]) ([]) := by
  refine fnOK_wp (p := (FnOK Try.prog 23 [AV.d (.agg [D.int .i64 s.b, D.str s.d, D.int .i64 s.n, D.sl (List.map ckD s.fl), D.sl (List.map ivD s.cm)])] [] (AV.d (.int .i64 e)) []) ∧ ((D.bool (e != (0 : Int)) = D.bool false) ∧ ((D.bool (decide (now < (0 : Int))) = D.bool false) ∧ ((D.bool (decide (now > (1099511627776 : Int))) = D.bool false) ∧ ((FnOK Try.prog 25 [AV.d (.agg [D.int .i64 s.b, D.str s.d, D.int .i64 s.n, D.sl (List.map ckD s.fl), D.sl (List.map ivD s.cm)])] [] (AV.d (.int .i64 f)) []) ∧ ((FnOK Try.prog 40 [AV.d (.agg [D.int .i64 s.b, D.str s.d, D.int .i64 s.n, D.sl (List.map ckD s.fl), D.sl (List.map ivD s.cm)])] [] (AV.d (.int .i64 (-1 : Int))) []) ∧ ((D.int .i64 (IntKind.i64.wrap (IntKind.i64.wrap (s.b + (↑s.d.length : Int)) - s.n)) = D.int .i64 l) ∧ (condP (decide (win ≤ f)) ((D.bool (decide (win ≤ f)) = D.bool true) ∧ ((D.bool true = D.bool true) ∧ ((D.bool true = D.bool true) ∧ ((AV.tup [AV.d (.agg [D.int .i64 s.b, D.str s.d, D.int .i64 s.n, D.sl (List.map ckD s.fl), D.sl (List.map ivD s.cm)]), AV.d (.agg [D.int .i64 (0 : Int), D.int .i64 (0 : Int), D.int .i64 (0 : Int), D.int .i64 (0 : Int), D.bool false]), AV.d (.str [])] = AV.tup [AV.d (.agg [D.int .i64 s.b, D.str s.d, D.int .i64 s.n, D.sl (List.map ckD s.fl), D.sl (List.map ivD s.cm)]), AV.d (.agg [D.int .i64 (0 : Int), D.int .i64 (0 : Int), D.int .i64 (0 : Int), D.int .i64 (0 : Int), D.bool false]), AV.d (.str [])]) ∧ (True))))) (condP (decide (limit ≤ s.n)) ((D.bool (decide (win ≤ f)) = D.bool false) ∧ ((D.bool (decide (limit ≤ s.n)) = D.bool true) ∧ ((D.bool true = D.bool true) ∧ ((AV.tup [AV.d (.agg [D.int .i64 s.b, D.str s.d, D.int .i64 s.n, D.sl (List.map ckD s.fl), D.sl (List.map ivD s.cm)]), AV.d (.agg [D.int .i64 (0 : Int), D.int .i64 (0 : Int), D.int .i64 (0 : Int), D.int .i64 (0 : Int), D.bool false]), AV.d (.str [])] = AV.tup [AV.d (.agg [D.int .i64 s.b, D.str s.d, D.int .i64 s.n, D.sl (List.map ckD s.fl), D.sl (List.map ivD s.cm)]), AV.d (.agg [D.int .i64 (0 : Int), D.int .i64 (0 : Int), D.int .i64 (0 : Int), D.int .i64 (0 : Int), D.bool false]), AV.d (.str [])]) ∧ (True))))) ((D.bool (decide (win ≤ f)) = D.bool false) ∧ ((D.bool (decide (limit ≤ s.n)) = D.bool false) ∧ ((D.bool (l == (0 : Int)) = D.bool true) ∧ ((AV.tup [AV.d (.agg [D.int .i64 s.b, D.str s.d, D.int .i64 s.n, D.sl (List.map ckD s.fl), D.sl (List.map ivD s.cm)]), AV.d (.agg [D.int .i64 (0 : Int), D.int .i64 (0 : Int), D.int .i64 (0 : Int), D.int .i64 (0 : Int), D.bool false]), AV.d (.str [])] = AV.tup [AV.d (.agg [D.int .i64 s.b, D.str s.d, D.int .i64 s.n, D.sl (List.map ckD s.fl), D.sl (List.map ivD s.cm)]), AV.d (.agg [D.int .i64 (0 : Int), D.int .i64 (0 : Int), D.int .i64 (0 : Int), D.int .i64 (0 : Int), D.bool false]), AV.d (.str [])]) ∧ (True)))))))))))))) (h := {H := [(1, [(1, .call [] (.d (.int .i64 e)) []), (3, .val (.bool false)), (7, .val (.bool false)), (10, .val (.bool false))]), (3, [(1, .call [] (.d (.int .i64 f)) [])]), (4, [(1, .call [] (.d (.int .i64 (-1))) [])]), (12, [(8, .val (.int .i64 l))]), (13, [(12, .val (.bool true))])]}) (subs := []) (ws := []) (ρ := []) (by kernel_rfl) ?_
  repeat' (with_reducible first | exact True.intro | apply And.intro | (first | apply zA | apply zB | apply zC | apply zD | apply zE | apply zF | apply zG) <;> intro)
  all_goals first | exact k3 | exact k4 | exact k5 | exact congrArg (D.int .i64) hl | rfl | omega | exact dyes (by omega) | exact dno (by omega) | (refine congrArg D.bool ?_; simp [he]; done) | (refine congrArg D.bool ?_; rw [beq_iff_eq]; omega) | (exfalso; omega) | skip

set_option maxRecDepth 100000 in
set_option maxHeartbeats 1000000 in
theorem pick13f (s : Sq) (now win limit : Int) (e : Int) (k3 : FnOK Try.prog 23 [.d (sqD s)] [] (.d (.int .i64 e)) []) (he : e = 0) (ht : 0 ≤ now ∧ now ≤ 1099511627776) (f : Int) (k4 : FnOK Try.prog 25 [.d (sqD s)] [] (.d (.int .i64 f)) []) (k5 : FnOK Try.prog 40 [.d (sqD s)] [] (.d (.int .i64 (-1))) []) (l : Int) (hl : IntKind.i64.wrap (IntKind.i64.wrap (s.b + (s.d.length : Int)) - s.n) = l) (hw : ¬(l = 0 ∨ win ≤ f ∨ limit ≤ s.n)) (hfl : s.fl.length < 1000000) (m u : Int) (hm : min (min (min 48 l) (IntKind.i64.wrap (win - f))) (IntKind.i64.wrap (limit - s.n)) = m) (hu : IntKind.i64.wrap (s.n + m) = u) (t : List UInt8) (k6 : FnOK Try.prog 42 [.d (sqD { s with n := u, fl := s.fl ++ [⟨s.n, u, now, 1, false⟩] }), .d (ckD ⟨s.n, u, now, 1, false⟩)] [] (.d (.str t)) []) : FnOK Try.prog 13 ([.d (sqD s), .d (.int .i64 now), .d (.int .i64 win), .d (.int .i64 limit)]) ([]) (.tup [.d (sqD { s with n := u, fl := s.fl ++ [⟨s.n, u, now, 1, false⟩] }), .d (ckD ⟨s.n, u, now, 1, false⟩), .d (.str t)]) ([]) := by
  refine fnOK_wp (p := (FnOK Try.prog 23 [AV.d (.agg [D.int .i64 s.b, D.str s.d, D.int .i64 s.n, D.sl (List.map ckD s.fl), D.sl (List.map ivD s.cm)])] [] (AV.d (.int .i64 e)) []) ∧ ((D.bool (e != (0 : Int)) = D.bool false) ∧ ((D.bool (decide (now < (0 : Int))) = D.bool false) ∧ ((D.bool (decide (now > (1099511627776 : Int))) = D.bool false) ∧ ((FnOK Try.prog 25 [AV.d (.agg [D.int .i64 s.b, D.str s.d, D.int .i64 s.n, D.sl (List.map ckD s.fl), D.sl (List.map ivD s.cm)])] [] (AV.d (.int .i64 f)) []) ∧ ((FnOK Try.prog 40 [AV.d (.agg [D.int .i64 s.b, D.str s.d, D.int .i64 s.n, D.sl (List.map ckD s.fl), D.sl (List.map ivD s.cm)])] [] (AV.d (.int .i64 (-1 : Int))) []) ∧ ((D.int .i64 (IntKind.i64.wrap (IntKind.i64.wrap (s.b + (↑s.d.length : Int)) - s.n)) = D.int .i64 l) ∧ ((D.bool (decide (win ≤ f)) = D.bool false) ∧ ((D.bool (decide (limit ≤ s.n)) = D.bool false) ∧ ((D.bool (l == (0 : Int)) = D.bool false) ∧ ((D.int .i64 (min (min (min (48 : Int) l) (IntKind.i64.wrap (win - f))) (IntKind.i64.wrap (limit - s.n))) = D.int .i64 m) ∧ ((D.int .i64 (IntKind.i64.wrap (s.n + m)) = D.int .i64 u) ∧ ((D.int .i64 (IntKind.i64.wrap (s.n + m)) = D.int .i64 u) ∧ (((0 + (List.map ckD s.fl).length) * 40 ≤ 140737488355328) ∧ ((∀ (e : D), e ∈ List.map ckD s.fl → e.cells.length = 5) ∧ (((([] ++ List.map ckD s.fl).length + [D.agg (List.take 5 [D.int .i64 s.n, D.int .i64 u, D.int .i64 now, D.int .i64 (1 : Int), D.bool false])].length) * 40 ≤ 140737488355328) ∧ ((∀ (e : D), e ∈ chunk 5 1 [D.int .i64 s.n, D.int .i64 u, D.int .i64 now, D.int .i64 (1 : Int), D.bool false] → e.cells.length = 5) ∧ ((FnOK Try.prog 42 [AV.d (.agg [D.int .i64 s.b, D.str s.d, D.int .i64 u, D.sl ([] ++ List.map ckD s.fl ++ [D.agg (List.take 5 [D.int .i64 s.n, D.int .i64 u, D.int .i64 now, D.int .i64 (1 : Int), D.bool false])]), D.sl (List.map ivD s.cm)]), AV.d (.agg [D.int .i64 s.n, D.int .i64 u, D.int .i64 now, D.int .i64 (1 : Int), D.bool false])] [] (AV.d (.str t)) []) ∧ ((AV.tup [AV.d (.agg [D.int .i64 s.b, D.str s.d, D.int .i64 u, D.sl ([] ++ List.map ckD s.fl ++ [D.agg (List.take 5 [D.int .i64 s.n, D.int .i64 u, D.int .i64 now, D.int .i64 (1 : Int), D.bool false])]), D.sl (List.map ivD s.cm)]), AV.d (.agg [D.int .i64 s.n, D.int .i64 u, D.int .i64 now, D.int .i64 (1 : Int), D.bool false]), AV.d (.str t)] = AV.tup [AV.d (.agg [D.int .i64 (Sq.mk s.b s.d u (s.fl ++ [Ck.mk s.n u now (1 : Int) false]) s.cm).b, D.str (Sq.mk s.b s.d u (s.fl ++ [Ck.mk s.n u now (1 : Int) false]) s.cm).d, D.int .i64 (Sq.mk s.b s.d u (s.fl ++ [Ck.mk s.n u now (1 : Int) false]) s.cm).n, D.sl (List.map ckD (Sq.mk s.b s.d u (s.fl ++ [Ck.mk s.n u now (1 : Int) false]) s.cm).fl), D.sl (List.map ivD (Sq.mk s.b s.d u (s.fl ++ [Ck.mk s.n u now (1 : Int) false]) s.cm).cm)]), AV.d (.agg [D.int .i64 (Ck.mk s.n u now (1 : Int) false).f, D.int .i64 (Ck.mk s.n u now (1 : Int) false).t, D.int .i64 (Ck.mk s.n u now (1 : Int) false).s, D.int .i64 (Ck.mk s.n u now (1 : Int) false).r, D.bool false]), AV.d (.str t)]) ∧ (True)))))))))))))))))))) (h := {H := [(1, [(1, .call [] (.d (.int .i64 e)) []), (3, .val (.bool false)), (7, .val (.bool false)), (10, .val (.bool false))]), (3, [(1, .call [] (.d (.int .i64 f)) [])]), (4, [(1, .call [] (.d (.int .i64 (-1))) [])]), (12, [(8, .val (.int .i64 l))]), (13, [(3, .val (.bool false)), (9, .val (.bool false)), (12, .val (.bool false))]), (15, [(8, .val (.int .i64 m))]), (16, [(5, .val (.int .i64 u))]), (17, [(3, .val (.int .i64 u))]), (20, [(4, .call [] (.d (.str t)) [])])]}) (subs := []) (ws := []) (ρ := []) (by kernel_rfl) ?_
  have hcm : (s.fl ++ [(⟨s.n, u, now, 1, false⟩ : Ck)]).map ckD = s.fl.map ckD ++ [ckD ⟨s.n, u, now, 1, false⟩] := by simp
  have hk : FnOK Try.prog 42 [.d (.agg [.int .i64 s.b, .str s.d, .int .i64 u, .sl (s.fl.map ckD ++ [ckD ⟨s.n, u, now, 1, false⟩]), .sl (s.cm.map ivD)]), .d (ckD ⟨s.n, u, now, 1, false⟩)] [] (.d (.str t)) [] := by rw [← hcm]; exact k6
  have hz : AV.tup [.d (.agg [.int .i64 s.b, .str s.d, .int .i64 u, .sl (s.fl.map ckD ++ [ckD ⟨s.n, u, now, 1, false⟩]), .sl (s.cm.map ivD)]), .d (ckD ⟨s.n, u, now, 1, false⟩), .d (.str t)] = AV.tup [.d (sqD { s with n := u, fl := s.fl ++ [⟨s.n, u, now, 1, false⟩] }), .d (ckD ⟨s.n, u, now, 1, false⟩), .d (.str t)] := by rw [← hcm]; rfl
  simp only [List.nil_append]
  repeat' (with_reducible first | exact True.intro | apply And.intro | (first | apply zA | apply zB | apply zC | apply zD | apply zE | apply zF | apply zG) <;> intro)
  all_goals first | exact hk | exact hz | exact k3 | exact k4 | exact k5 | exact congrArg (D.int .i64) hl | exact congrArg (D.int .i64) hm | exact congrArg (D.int .i64) hu | rfl | omega | exact dyes (by omega) | exact dno (by omega) | (refine congrArg D.bool ?_; simp [he]; done) | (refine congrArg D.bool ?_; rw [beq_eq_false_iff_ne]; omega) | (simp; omega) | (simp [chunk, ckD, D.cells]; done) | exact ckD_sz _ | skip

theorem pick13 (s : Sq) (h : SqOk s) (hk : sChkR s = sChk s) (now win limit : Int) (hw : -9223372036854775808 ≤ win ∧ win < 9223372036854775808) (hl : -9223372036854775808 ≤ limit ∧ limit < 9223372036854775808) :
    FnOK Try.prog 13 [.d (sqD s), .d (.int .i64 now), .d (.int .i64 win), .d (.int .i64 limit)] [] (.tup [.d (sqD (rPick s now win limit).1), .d (ckD (rPick s now win limit).2.1), .d (.str (rPick s now win limit).2.2)]) [] := by
  have k3 := chk23 s (by have := h.fl; omega) (by have := h.cm; omega)
  rw [hk] at k3
  have k4 := flight25 s (by have := h.fl; omega)
  unfold rPick
  by_cases hg : sChk s ≠ 0 ∨ tickB now = false
  · rw [if_pos hg]
    refine pick13a s now win limit _ k3 ?_
    rcases hg with g | g
    · exact .inl g
    · unfold tickB at g
      rw [Bool.and_eq_false_iff] at g
      simp only [decide_eq_false_iff_not] at g
      omega
  · rw [if_neg hg]
    have he : sChk s = 0 := by
      by_cases g : sChk s = 0
      · exact g
      · exact absurd (.inl g) hg
    have ht : 0 ≤ now ∧ now ≤ 1099511627776 := by
      by_cases g : 0 ≤ now ∧ now ≤ 1099511627776
      · exact g
      · refine absurd (.inr ?_) hg
        unfold tickB
        rw [Bool.and_eq_false_iff]
        simp only [decide_eq_false_iff_not]
        omega
    have hfb := flight_bd h.n.2 he
    obtain ⟨⟨c1, c2, c3, c4⟩, c5, c6, c7⟩ := sChk_ok h.n.2 he
    unfold lastP at c2
    rcases again40 s (by have := h.fl; omega) with ⟨g1, g2⟩ | ⟨i, c, g1, g2, g3, g4⟩
    · have e0 : s.fl.findIdx? lostB = none := by rw [List.findIdx?_eq_none_iff]; exact g1
      rw [e0]
      have e1 : IntKind.i64.wrap (IntKind.i64.wrap (s.b + (s.d.length : Int)) - s.n) = s.b + (s.d.length : Int) - s.n := by
        rw [wrap_in (x := s.b + (s.d.length : Int)) (by omega) (by omega)]
        exact wrap_in (by omega) (by omega)
      dsimp only
      by_cases hq : s.b + (s.d.length : Int) - s.n = 0 ∨ win ≤ rFlight s ∨ limit ≤ s.n
      · simp only [if_pos hq]
        exact pick13e s now win limit _ k3 he ht _ k4 g2 _ e1 hq
      · simp only [if_neg hq]
        have e2 : IntKind.i64.wrap (win - rFlight s) = win - rFlight s := wrap_in (by omega) (by omega)
        have e3 : IntKind.i64.wrap (limit - s.n) = limit - s.n := wrap_in (by omega) (by omega)
        have hp : 0 < pkN s win limit ∧ pkN s win limit ≤ s.b + (s.d.length : Int) - s.n := by unfold pkN; omega
        have e4 : IntKind.i64.wrap (s.n + pkN s win limit) = s.n + pkN s win limit := wrap_in (by omega) (by omega)
        refine pick13f s now win limit _ k3 he ht _ k4 g2 _ e1 hq (by have := h.fl; omega) (pkN s win limit) _ (by rw [e2, e3]; unfold pkN; omega) e4 _ ?_
        exact bytes42 _ _ (s.n - s.b) (s.n + pkN s win limit - s.b) (wrap_in (by show _ ≤ s.n - s.b; omega) (by show s.n - s.b < _; omega)) (wrap_in (by show _ ≤ s.n + pkN s win limit - s.b; omega) (by show s.n + pkN s win limit - s.b < _; omega)) (by omega) (by omega) (by show _ ≤ (s.d.length : Int); omega)
    · have hlt := get_lt g1
      have e0 : s.fl.findIdx? lostB = some i := by
        rw [List.findIdx?_eq_some_iff_getElem]
        refine ⟨hlt, by rw [(List.getElem?_eq_some_iff.1 g1).2]; exact g2, fun j hj => ?_⟩
        rw [g3 j _ hj (get_of (by omega))]
        simp
      rw [e0]
      obtain ⟨a', ha1, ha2⟩ := flB_mem s s.fl s.b c7 c (get_mem g1)
      obtain ⟨f1, f2, f3, f4, f5, -⟩ := fits_in (by omega) (by omega) ha2
      have e5 : IntKind.i64.wrap (IntKind.i64.wrap (rFlight s + c.t) - c.f) = rFlight s + (c.t - c.f) := by
        rw [wrap_in (x := rFlight s + c.t) (by omega) (by omega), wrap_in (by omega) (by omega)]
        omega
      dsimp only
      simp only [g1]
      by_cases hq : rFlight s = 0 ∨ rFlight s + (c.t - c.f) ≤ win
      · simp only [if_pos hq]
        exact pick13d s now win limit _ k3 he ht _ k4 i c g1 g4 e5 hfb.1 hq _ (with41 s.fl (by have := h.fl; omega) i _ c g1) (bytes42 { s with fl := s.fl.set i (again c now) } (again c now) (c.f - s.b) (c.t - s.b) (wrap_in (by show _ ≤ c.f - s.b; omega) (by show c.f - s.b < _; omega)) (wrap_in (by show _ ≤ c.t - s.b; omega) (by show c.t - s.b < _; omega)) (by omega) (by omega) (by show _ ≤ (s.d.length : Int); omega))
      · simp only [if_neg hq]
        exact pick13c s now win limit _ k3 he ht _ k4 i c g1 g4 e5 hfb.1 hq trivial trivial
end Go.Proofs.Ytfllhedkgeljaaa

/-
laws 11: the document's: what counts as lost, the oldest tick, whether two are one; few; states handed over.
-/
set_option linter.unusedSimpArgs false
set_option linter.unusedVariables false
namespace Go.Proofs.Ytfllhedkgeljaaa
open Sx Go.RowKit C06

def sqZ : Ob := .box [.d (.int .i64 0), .d (.str []), .d (.int .i64 0), .raw (.slice none 0 0), .raw (.slice none 0 0)]
/-! ### Expire -/
def I15 (s : Sq) (q : Bool) (j : Nat) : St := ⟨[(1, .ptr 0 0), (2, .ptr 1 0), (4, .d (.bool q)), (5, .d (.int .i64 j))], [(0, sqB { s with fl := mapTo lose1 s.fl j }), (1, sqZ)]⟩
set_option maxRecDepth 100000 in
set_option maxHeartbeats 1000000 in
theorem r15 (s : Sq) (hl : s.fl.length < 1000000) (q q' : Bool) (j : Nat) (c : Ck) (hn : s.fl[j]? = some c) (hm : (mapTo lose1 s.fl j)[j]? = some c) (hq : (q || !c.l) = q') (k1 : FnOK Try.prog 41 [.d (.sl ((mapTo lose1 s.fl j).map ckD)), .d (.int .i64 j), .d (ckD (lose1 c))] [] (.d (.sl ((mapTo lose1 s.fl (j+1)).map ckD))) []) : Runs Try.prog 0 (loopN Try.prog 15 0) (St.as (I15 s q j) 34) (.normal) (St.as (I15 s q' (j+1)) 34) := by
  refine round_wp (p := condP (decide ((↑j : Int) < (↑(List.map ckD (Sq.mk s.b s.d s.n (mapTo lose1 s.fl j) s.cm).fl).length : Int))) (((0 : Int) ≤ (↑j : Int)) ∧ (((List.map ckD (Sq.mk s.b s.d s.n (mapTo lose1 s.fl j) s.cm).fl)[(↑j : Int).toNat]? = some (D.agg [D.int .i64 c.f, D.int .i64 c.t, D.int .i64 c.s, D.int .i64 c.r, D.bool c.l])) ∧ (condP (q) ((D.bool q = D.bool true) ∧ ((D.bool true = D.bool q') ∧ ((FnOK Try.prog 41 [AV.d (.sl (List.map ckD (Sq.mk s.b s.d s.n (mapTo lose1 s.fl j) s.cm).fl)), AV.d (.int .i64 (↑j : Int)), AV.d (.agg [D.int .i64 c.f, D.int .i64 c.t, D.int .i64 c.s, D.int .i64 c.r, D.bool true])] [] (AV.d (.sl (List.map ckD (mapTo lose1 s.fl (j + 1))))) []) ∧ ((AV.ptr 0 0 = AV.ptr 0 0) ∧ ((AV.ptr 1 0 = AV.ptr 1 0) ∧ ((AV.d (.bool q') = AV.d (.bool q')) ∧ ((AV.d (.int .i64 (IntKind.i64.wrap ((↑j : Int) + (1 : Int)))) = AV.d (.int .i64 (↑(j + 1) : Int))) ∧ ((Ob.box [AV.d (.int .i64 (Sq.mk s.b s.d s.n (mapTo lose1 s.fl j) s.cm).b), AV.d (.str (Sq.mk s.b s.d s.n (mapTo lose1 s.fl j) s.cm).d), AV.d (.int .i64 (Sq.mk s.b s.d s.n (mapTo lose1 s.fl j) s.cm).n), AV.d (.sl (List.map ckD (mapTo lose1 s.fl (j + 1)))), AV.d (.sl (List.map ivD (Sq.mk s.b s.d s.n (mapTo lose1 s.fl j) s.cm).cm))] = Ob.box [AV.d (.int .i64 (Sq.mk s.b s.d s.n (mapTo lose1 s.fl (j + 1)) s.cm).b), AV.d (.str (Sq.mk s.b s.d s.n (mapTo lose1 s.fl (j + 1)) s.cm).d), AV.d (.int .i64 (Sq.mk s.b s.d s.n (mapTo lose1 s.fl (j + 1)) s.cm).n), AV.d (.sl (List.map ckD (Sq.mk s.b s.d s.n (mapTo lose1 s.fl (j + 1)) s.cm).fl)), AV.d (.sl (List.map ivD (Sq.mk s.b s.d s.n (mapTo lose1 s.fl (j + 1)) s.cm).cm))]) ∧ ((Ob.box [AV.d (.int .i64 (0 : Int)), AV.d (.str []), AV.d (.int .i64 (0 : Int)), AV.raw (Value.slice none 0 0), AV.raw (Value.slice none 0 0)] = Ob.box [AV.d (.int .i64 (0 : Int)), AV.d (.str []), AV.d (.int .i64 (0 : Int)), AV.raw (Value.slice none 0 0), AV.raw (Value.slice none 0 0)]) ∧ (True)))))))))) ((D.bool q = D.bool false) ∧ (((D.bool !c.l) = D.bool q') ∧ ((FnOK Try.prog 41 [AV.d (.sl (List.map ckD (Sq.mk s.b s.d s.n (mapTo lose1 s.fl j) s.cm).fl)), AV.d (.int .i64 (↑j : Int)), AV.d (.agg [D.int .i64 c.f, D.int .i64 c.t, D.int .i64 c.s, D.int .i64 c.r, D.bool true])] [] (AV.d (.sl (List.map ckD (mapTo lose1 s.fl (j + 1))))) []) ∧ ((AV.ptr 0 0 = AV.ptr 0 0) ∧ ((AV.ptr 1 0 = AV.ptr 1 0) ∧ ((AV.d (.bool q') = AV.d (.bool q')) ∧ ((AV.d (.int .i64 (IntKind.i64.wrap ((↑j : Int) + (1 : Int)))) = AV.d (.int .i64 (↑(j + 1) : Int))) ∧ ((Ob.box [AV.d (.int .i64 (Sq.mk s.b s.d s.n (mapTo lose1 s.fl j) s.cm).b), AV.d (.str (Sq.mk s.b s.d s.n (mapTo lose1 s.fl j) s.cm).d), AV.d (.int .i64 (Sq.mk s.b s.d s.n (mapTo lose1 s.fl j) s.cm).n), AV.d (.sl (List.map ckD (mapTo lose1 s.fl (j + 1)))), AV.d (.sl (List.map ivD (Sq.mk s.b s.d s.n (mapTo lose1 s.fl j) s.cm).cm))] = Ob.box [AV.d (.int .i64 (Sq.mk s.b s.d s.n (mapTo lose1 s.fl (j + 1)) s.cm).b), AV.d (.str (Sq.mk s.b s.d s.n (mapTo lose1 s.fl (j + 1)) s.cm).d), AV.d (.int .i64 (Sq.mk s.b s.d s.n (mapTo lose1 s.fl (j + 1)) s.cm).n), AV.d (.sl (List.map ckD (Sq.mk s.b s.d s.n (mapTo lose1 s.fl (j + 1)) s.cm).fl)), AV.d (.sl (List.map ivD (Sq.mk s.b s.d s.n (mapTo lose1 s.fl (j + 1)) s.cm).cm))]) ∧ ((Ob.box [AV.d (.int .i64 (0 : Int)), AV.d (.str []), AV.d (.int .i64 (0 : Int)), AV.raw (Value.slice none 0 0), AV.raw (Value.slice none 0 0)] = Ob.box [AV.d (.int .i64 (0 : Int)), AV.d (.str []), AV.d (.int .i64 (0 : Int)), AV.raw (Value.slice none 0 0), AV.raw (Value.slice none 0 0)]) ∧ (True))))))))))))) (False)) (h := {els := [(15, .el (ckD c))], H := [(6, [(6, .val (.bool q'))]), (8, [(4, .call [] (.d (.sl ((mapTo lose1 s.fl (j+1)).map ckD))) [])])]}) (subs := []) (ws := []) (ρ := []) (by kernel_rfl) ?_
  have hj := get_lt hn
  have hi := inc_i64 (j := j) (by omega)
  have hln := mapTo_len lose1 s.fl j
  try simp only [hi]
  simp only [List.length_map, hln]
  refine condP_t (by rw [decide_eq_true_eq]; omega) ?_
  repeat' (with_reducible first | exact True.intro | apply And.intro | (first | apply zA | apply zB | apply zC | apply zD | apply zE | apply zF | apply zG) <;> intro)
  all_goals first | exact k1 | exact el_map hm rfl | rfl | omega | (refine congrArg D.bool ?_; rw [← hq]; simp_all; done) | (subst hq; simp_all; done) | skip

set_option maxRecDepth 100000 in
set_option maxHeartbeats 1000000 in
theorem q15 (s : Sq) (q : Bool) (hln : (mapTo lose1 s.fl s.fl.length).length = s.fl.length) : Runs Try.prog 0 (loopN Try.prog 15 0) (St.as (I15 s q s.fl.length) 34) (.exit 0) (St.as (I15 s q s.fl.length) 34) := by
  refine round_wp (p := condP (decide ((↑s.fl.length : Int) < (↑(List.map ckD (Sq.mk s.b s.d s.n (mapTo lose1 s.fl s.fl.length) s.cm).fl).length : Int))) (False) ((AV.ptr 0 0 = AV.ptr 0 0) ∧ ((AV.ptr 1 0 = AV.ptr 1 0) ∧ ((AV.d (.bool q) = AV.d (.bool q)) ∧ ((AV.d (.int .i64 (↑s.fl.length : Int)) = AV.d (.int .i64 (↑s.fl.length : Int))) ∧ ((Ob.box [AV.d (.int .i64 (Sq.mk s.b s.d s.n (mapTo lose1 s.fl s.fl.length) s.cm).b), AV.d (.str (Sq.mk s.b s.d s.n (mapTo lose1 s.fl s.fl.length) s.cm).d), AV.d (.int .i64 (Sq.mk s.b s.d s.n (mapTo lose1 s.fl s.fl.length) s.cm).n), AV.d (.sl (List.map ckD (Sq.mk s.b s.d s.n (mapTo lose1 s.fl s.fl.length) s.cm).fl)), AV.d (.sl (List.map ivD (Sq.mk s.b s.d s.n (mapTo lose1 s.fl s.fl.length) s.cm).cm))] = Ob.box [AV.d (.int .i64 (Sq.mk s.b s.d s.n (mapTo lose1 s.fl s.fl.length) s.cm).b), AV.d (.str (Sq.mk s.b s.d s.n (mapTo lose1 s.fl s.fl.length) s.cm).d), AV.d (.int .i64 (Sq.mk s.b s.d s.n (mapTo lose1 s.fl s.fl.length) s.cm).n), AV.d (.sl (List.map ckD (Sq.mk s.b s.d s.n (mapTo lose1 s.fl s.fl.length) s.cm).fl)), AV.d (.sl (List.map ivD (Sq.mk s.b s.d s.n (mapTo lose1 s.fl s.fl.length) s.cm).cm))]) ∧ ((Ob.box [AV.d (.int .i64 (0 : Int)), AV.d (.str []), AV.d (.int .i64 (0 : Int)), AV.raw (Value.slice none 0 0), AV.raw (Value.slice none 0 0)] = Ob.box [AV.d (.int .i64 (0 : Int)), AV.d (.str []), AV.d (.int .i64 (0 : Int)), AV.raw (Value.slice none 0 0), AV.raw (Value.slice none 0 0)]) ∧ (True)))))))) (h := {}) (subs := []) (ws := []) (ρ := []) (by kernel_rfl) ?_
  simp only [List.length_map, hln]
  repeat' (with_reducible first | exact True.intro | apply And.intro | (first | apply zA | apply zB | apply zC | apply zD | apply zE | apply zF | apply zG) <;> intro)
  all_goals (try simp only [List.length_map, AV.d.injEq, D.int.injEq, D.bool.injEq, D.str.injEq, D.sl.injEq, true_and, and_true, decide_eq_true_eq, decide_eq_false_iff_not, decide_eq_decide])
  all_goals (try simp only [List.length_map] at *)
  all_goals first | rfl | omega

set_option maxRecDepth 100000 in
set_option maxHeartbeats 1000000 in
theorem exp15 (s : Sq) (q : Bool) (hL : Loops Try.prog 0 (loopN Try.prog 15 0) ((I15 s false 0).as 34) (.exit 0) ((I15 s q s.fl.length).as 34)) : FnOK Try.prog 15 ([.d (sqD s)]) ([]) (.tup [.d (sqD { s with fl := s.fl.map lose1 }), .d (.bool q)]) ([]) := by
  refine fnOK_wp (p := (AV.ptr 1008 0 = AV.ptr 1008 0) ∧ ((AV.ptr 1016 0 = AV.ptr 1016 0) ∧ ((AV.d (.bool false) = AV.d (.bool false)) ∧ ((AV.d (.int .i64 (0 : Int)) = AV.d (.int .i64 (0 : Int))) ∧ ((Ob.box [AV.d (.int .i64 s.b), AV.d (.str s.d), AV.d (.int .i64 s.n), AV.d (.sl (List.map ckD s.fl)), AV.d (.sl (List.map ivD s.cm))] = Ob.box [AV.d (.int .i64 (Sq.mk s.b s.d s.n (mapTo lose1 s.fl 0) s.cm).b), AV.d (.str (Sq.mk s.b s.d s.n (mapTo lose1 s.fl 0) s.cm).d), AV.d (.int .i64 (Sq.mk s.b s.d s.n (mapTo lose1 s.fl 0) s.cm).n), AV.d (.sl (List.map ckD (Sq.mk s.b s.d s.n (mapTo lose1 s.fl 0) s.cm).fl)), AV.d (.sl (List.map ivD (Sq.mk s.b s.d s.n (mapTo lose1 s.fl 0) s.cm).cm))]) ∧ ((Ob.box [AV.d (.int .i64 (0 : Int)), AV.d (.str []), AV.d (.int .i64 (0 : Int)), AV.raw (Value.slice none 0 0), AV.raw (Value.slice none 0 0)] = Ob.box [AV.d (.int .i64 (0 : Int)), AV.d (.str []), AV.d (.int .i64 (0 : Int)), AV.raw (Value.slice none 0 0), AV.raw (Value.slice none 0 0)]) ∧ ((LoopsS Try.prog 0 (loopN Try.prog 15 0) (I15 s false 0) (Exit.exit 0) (I15 s q s.fl.length) 34) ∧ ((AV.tup [AV.d (.agg [D.int .i64 (Sq.mk s.b s.d s.n (mapTo lose1 s.fl s.fl.length) s.cm).b, D.str (Sq.mk s.b s.d s.n (mapTo lose1 s.fl s.fl.length) s.cm).d, D.int .i64 (Sq.mk s.b s.d s.n (mapTo lose1 s.fl s.fl.length) s.cm).n, D.sl (List.map ckD (Sq.mk s.b s.d s.n (mapTo lose1 s.fl s.fl.length) s.cm).fl), D.sl (List.map ivD (Sq.mk s.b s.d s.n (mapTo lose1 s.fl s.fl.length) s.cm).cm)]), AV.d (.bool q)] = AV.tup [AV.d (.agg [D.int .i64 (Sq.mk s.b s.d s.n (List.map lose1 s.fl) s.cm).b, D.str (Sq.mk s.b s.d s.n (List.map lose1 s.fl) s.cm).d, D.int .i64 (Sq.mk s.b s.d s.n (List.map lose1 s.fl) s.cm).n, D.sl (List.map ckD (Sq.mk s.b s.d s.n (List.map lose1 s.fl) s.cm).fl), D.sl (List.map ivD (Sq.mk s.b s.d s.n (List.map lose1 s.fl) s.cm).cm)]), AV.d (.bool q)]) ∧ (True))))))))) (h := {}) (subs := [⟨[], [], I15 s false 0, .exit 0, I15 s q s.fl.length⟩]) (ws := []) (ρ := []) (by kernel_rfl) ?_
  have h0 := mapTo_zero lose1 s.fl
  have h1 := mapTo_end lose1 s.fl
  repeat' (with_reducible first | exact True.intro | apply And.intro | (first | apply zA | apply zB | apply zC | apply zD | apply zE | apply zF | apply zG) <;> intro)
  all_goals first | exact hL | rfl | (rw [h0]; done) | (rw [h1]; done) | (rw [h0]; rfl) | (rw [h1]; rfl) | skip

theorem expire15 (s : Sq) (hf : s.fl.length < 100000) : FnOK Try.prog 15 [.d (sqD s)] [] (.tup [.d (sqD (rExpire s).1), .d (.bool (rExpire s).2)]) [] := by
  refine exp15 s _ ?_
  have hL := loops_n (P := Try.prog) (k := 0) (c := loopN Try.prog 15 0) (e := .exit 0) (I := fun j => (I15 s ((s.fl.take j).any notL) j).as 34) (by simp) s.fl.length 0 (by omega) (fun j _ hj => by
    have hn := get_of hj
    show Runs _ _ _ _ _ ((I15 s ((s.fl.take (j + 1)).any notL) (j + 1)).as _)
    have hm := mapTo_get lose1 hn
    have k := with41 (mapTo lose1 s.fl j) (by rw [mapTo_len]; omega) j (lose1 s.fl[j]) _ hm
    rw [mapTo_set lose1 hn] at k
    exact r15 s (by omega) _ _ j _ hn hm (any_snoc hn).symm k) (by simp only [List.take_length]; exact q15 s _ (mapTo_len _ _ _))
  exact hL
/-! ### Oldest -/
def I17 (s : Sq) (p : Int × Bool) (j : Nat) : St := ⟨[(1, .ptr 0 0), (4, .d (.int .i64 p.1)), (5, .d (.bool p.2)), (6, .d (.int .i64 j))], [(0, sqB s)]⟩
set_option maxRecDepth 100000 in
set_option maxHeartbeats 1000000 in
theorem r17a (s : Sq) (hl : s.fl.length < 1000000) (u : Int) (q : Bool) (j : Nat) (c : Ck) (hn : s.fl[j]? = some c) (h1 : c.l = true) (h2 : True) : Runs Try.prog 0 (loopN Try.prog 17 0) (St.as (I17 s (u, q) j) 37) (.normal) (St.as (I17 s (u, q) (j+1)) 37) := by
  refine round_wp (p := condP (decide ((↑j : Int) < (↑(List.map ckD s.fl).length : Int))) (((0 : Int) ≤ (↑j : Int)) ∧ (((List.map ckD s.fl)[(↑j : Int).toNat]? = some (D.agg [D.int .i64 c.f, D.int .i64 c.t, D.int .i64 c.s, D.int .i64 c.r, D.bool c.l])) ∧ (((D.bool !c.l) = D.bool false) ∧ ((AV.ptr 0 0 = AV.ptr 0 0) ∧ ((AV.d (.int .i64 (u, q).fst) = AV.d (.int .i64 (u, q).fst)) ∧ ((AV.d (.bool (u, q).snd) = AV.d (.bool (u, q).snd)) ∧ ((AV.d (.int .i64 (IntKind.i64.wrap ((↑j : Int) + (1 : Int)))) = AV.d (.int .i64 (↑(j + 1) : Int))) ∧ ((Ob.box [AV.d (.int .i64 s.b), AV.d (.str s.d), AV.d (.int .i64 s.n), AV.d (.sl (List.map ckD s.fl)), AV.d (.sl (List.map ivD s.cm))] = Ob.box [AV.d (.int .i64 s.b), AV.d (.str s.d), AV.d (.int .i64 s.n), AV.d (.sl (List.map ckD s.fl)), AV.d (.sl (List.map ivD s.cm))]) ∧ (True))))))))) (False)) (h := {els := [(16, .el (ckD c))], H := [(6, [(3, .val (.bool false))])]}) (subs := []) (ws := []) (ρ := []) (by kernel_rfl) ?_
  have hj := get_lt hn
  have hi := inc_i64 (j := j) (by omega)
  try simp only [hi]
  simp only [List.length_map]
  refine condP_t (by rw [decide_eq_true_eq]; omega) ?_
  repeat' (with_reducible first | exact True.intro | apply And.intro | (first | apply zA | apply zB | apply zC | apply zD | apply zE | apply zF | apply zG) <;> intro)
  all_goals first | exact el_map hn rfl | rfl | omega | (refine congrArg D.bool ?_; simp [h1]; done) | (refine congrArg D.bool ?_; simp [h2]; done) | exact dyes (by omega) | exact dno (by omega) | skip

set_option maxRecDepth 100000 in
set_option maxHeartbeats 1000000 in
theorem r17b (s : Sq) (hl : s.fl.length < 1000000) (u : Int) (q : Bool) (j : Nat) (c : Ck) (hn : s.fl[j]? = some c) (h1 : c.l = false) (h2 : q = false) : Runs Try.prog 0 (loopN Try.prog 17 0) (St.as (I17 s (u, q) j) 37) (.normal) (St.as (I17 s (c.s, true) (j+1)) 37) := by
  refine round_wp (p := condP (decide ((↑j : Int) < (↑(List.map ckD s.fl).length : Int))) (((0 : Int) ≤ (↑j : Int)) ∧ (((List.map ckD s.fl)[(↑j : Int).toNat]? = some (D.agg [D.int .i64 c.f, D.int .i64 c.t, D.int .i64 c.s, D.int .i64 c.r, D.bool c.l])) ∧ (((D.bool !c.l) = D.bool true) ∧ (((D.bool !(u, q).snd) = D.bool true) ∧ ((AV.ptr 0 0 = AV.ptr 0 0) ∧ ((AV.d (.int .i64 c.s) = AV.d (.int .i64 (c.s, true).fst)) ∧ ((AV.d (.bool true) = AV.d (.bool true)) ∧ ((AV.d (.int .i64 (IntKind.i64.wrap ((↑j : Int) + (1 : Int)))) = AV.d (.int .i64 (↑(j + 1) : Int))) ∧ ((Ob.box [AV.d (.int .i64 s.b), AV.d (.str s.d), AV.d (.int .i64 s.n), AV.d (.sl (List.map ckD s.fl)), AV.d (.sl (List.map ivD s.cm))] = Ob.box [AV.d (.int .i64 s.b), AV.d (.str s.d), AV.d (.int .i64 s.n), AV.d (.sl (List.map ckD s.fl)), AV.d (.sl (List.map ivD s.cm))]) ∧ (True)))))))))) (False)) (h := {els := [(16, .el (ckD c))], H := [(6, [(3, .val (.bool true)), (6, .val (.bool true))])]}) (subs := []) (ws := []) (ρ := []) (by kernel_rfl) ?_
  have hj := get_lt hn
  have hi := inc_i64 (j := j) (by omega)
  try simp only [hi]
  simp only [List.length_map]
  refine condP_t (by rw [decide_eq_true_eq]; omega) ?_
  repeat' (with_reducible first | exact True.intro | apply And.intro | (first | apply zA | apply zB | apply zC | apply zD | apply zE | apply zF | apply zG) <;> intro)
  all_goals first | exact el_map hn rfl | rfl | omega | (refine congrArg D.bool ?_; simp [h1]; done) | (refine congrArg D.bool ?_; simp [h2]; done) | exact dyes (by omega) | exact dno (by omega) | skip

set_option maxRecDepth 100000 in
set_option maxHeartbeats 1000000 in
theorem r17c (s : Sq) (hl : s.fl.length < 1000000) (u : Int) (q : Bool) (j : Nat) (c : Ck) (hn : s.fl[j]? = some c) (h1 : c.l = false) (h2 : q = true) (h3 : c.s < u) : Runs Try.prog 0 (loopN Try.prog 17 0) (St.as (I17 s (u, q) j) 37) (.normal) (St.as (I17 s (c.s, true) (j+1)) 37) := by
  refine round_wp (p := condP (decide ((↑j : Int) < (↑(List.map ckD s.fl).length : Int))) (((0 : Int) ≤ (↑j : Int)) ∧ (((List.map ckD s.fl)[(↑j : Int).toNat]? = some (D.agg [D.int .i64 c.f, D.int .i64 c.t, D.int .i64 c.s, D.int .i64 c.r, D.bool c.l])) ∧ (((D.bool !c.l) = D.bool true) ∧ (((D.bool !(u, q).snd) = D.bool false) ∧ ((D.bool (decide (c.s < (u, q).fst)) = D.bool true) ∧ ((AV.ptr 0 0 = AV.ptr 0 0) ∧ ((AV.d (.int .i64 c.s) = AV.d (.int .i64 (c.s, true).fst)) ∧ ((AV.d (.bool true) = AV.d (.bool true)) ∧ ((AV.d (.int .i64 (IntKind.i64.wrap ((↑j : Int) + (1 : Int)))) = AV.d (.int .i64 (↑(j + 1) : Int))) ∧ ((Ob.box [AV.d (.int .i64 s.b), AV.d (.str s.d), AV.d (.int .i64 s.n), AV.d (.sl (List.map ckD s.fl)), AV.d (.sl (List.map ivD s.cm))] = Ob.box [AV.d (.int .i64 s.b), AV.d (.str s.d), AV.d (.int .i64 s.n), AV.d (.sl (List.map ckD s.fl)), AV.d (.sl (List.map ivD s.cm))]) ∧ (True))))))))))) (False)) (h := {els := [(16, .el (ckD c))], H := [(6, [(3, .val (.bool true)), (6, .val (.bool false)), (10, .val (.bool true))])]}) (subs := []) (ws := []) (ρ := []) (by kernel_rfl) ?_
  have hj := get_lt hn
  have hi := inc_i64 (j := j) (by omega)
  try simp only [hi]
  simp only [List.length_map]
  refine condP_t (by rw [decide_eq_true_eq]; omega) ?_
  repeat' (with_reducible first | exact True.intro | apply And.intro | (first | apply zA | apply zB | apply zC | apply zD | apply zE | apply zF | apply zG) <;> intro)
  all_goals first | exact el_map hn rfl | rfl | omega | (refine congrArg D.bool ?_; simp [h1]; done) | (refine congrArg D.bool ?_; simp [h2]; done) | exact dyes (by omega) | exact dno (by omega) | skip

set_option maxRecDepth 100000 in
set_option maxHeartbeats 1000000 in
theorem r17d (s : Sq) (hl : s.fl.length < 1000000) (u : Int) (q : Bool) (j : Nat) (c : Ck) (hn : s.fl[j]? = some c) (h1 : c.l = false) (h2 : q = true) (h3 : ¬c.s < u) : Runs Try.prog 0 (loopN Try.prog 17 0) (St.as (I17 s (u, q) j) 37) (.normal) (St.as (I17 s (u, q) (j+1)) 37) := by
  refine round_wp (p := condP (decide ((↑j : Int) < (↑(List.map ckD s.fl).length : Int))) (((0 : Int) ≤ (↑j : Int)) ∧ (((List.map ckD s.fl)[(↑j : Int).toNat]? = some (D.agg [D.int .i64 c.f, D.int .i64 c.t, D.int .i64 c.s, D.int .i64 c.r, D.bool c.l])) ∧ (((D.bool !c.l) = D.bool true) ∧ (((D.bool !(u, q).snd) = D.bool false) ∧ ((D.bool (decide (c.s < (u, q).fst)) = D.bool false) ∧ ((AV.ptr 0 0 = AV.ptr 0 0) ∧ ((AV.d (.int .i64 (u, q).fst) = AV.d (.int .i64 (u, q).fst)) ∧ ((AV.d (.bool (u, q).snd) = AV.d (.bool (u, q).snd)) ∧ ((AV.d (.int .i64 (IntKind.i64.wrap ((↑j : Int) + (1 : Int)))) = AV.d (.int .i64 (↑(j + 1) : Int))) ∧ ((Ob.box [AV.d (.int .i64 s.b), AV.d (.str s.d), AV.d (.int .i64 s.n), AV.d (.sl (List.map ckD s.fl)), AV.d (.sl (List.map ivD s.cm))] = Ob.box [AV.d (.int .i64 s.b), AV.d (.str s.d), AV.d (.int .i64 s.n), AV.d (.sl (List.map ckD s.fl)), AV.d (.sl (List.map ivD s.cm))]) ∧ (True))))))))))) (False)) (h := {els := [(16, .el (ckD c))], H := [(6, [(3, .val (.bool true)), (6, .val (.bool false)), (10, .val (.bool false))])]}) (subs := []) (ws := []) (ρ := []) (by kernel_rfl) ?_
  have hj := get_lt hn
  have hi := inc_i64 (j := j) (by omega)
  try simp only [hi]
  simp only [List.length_map]
  refine condP_t (by rw [decide_eq_true_eq]; omega) ?_
  repeat' (with_reducible first | exact True.intro | apply And.intro | (first | apply zA | apply zB | apply zC | apply zD | apply zE | apply zF | apply zG) <;> intro)
  all_goals first | exact el_map hn rfl | rfl | omega | (refine congrArg D.bool ?_; simp [h1]; done) | (refine congrArg D.bool ?_; simp [h2]; done) | exact dyes (by omega) | exact dno (by omega) | skip

set_option maxRecDepth 100000 in
set_option maxHeartbeats 1000000 in
theorem q17 (s : Sq) (p : Int × Bool) : Runs Try.prog 0 (loopN Try.prog 17 0) (St.as (I17 s p s.fl.length) 37) (.exit 0) (St.as (I17 s p s.fl.length) 37) := by
  refine round_wp (p := condP (decide ((↑s.fl.length : Int) < (↑(List.map ckD s.fl).length : Int))) (False) ((AV.ptr 0 0 = AV.ptr 0 0) ∧ ((AV.d (.int .i64 p.fst) = AV.d (.int .i64 p.fst)) ∧ ((AV.d (.bool p.snd) = AV.d (.bool p.snd)) ∧ ((AV.d (.int .i64 (↑s.fl.length : Int)) = AV.d (.int .i64 (↑s.fl.length : Int))) ∧ ((Ob.box [AV.d (.int .i64 s.b), AV.d (.str s.d), AV.d (.int .i64 s.n), AV.d (.sl (List.map ckD s.fl)), AV.d (.sl (List.map ivD s.cm))] = Ob.box [AV.d (.int .i64 s.b), AV.d (.str s.d), AV.d (.int .i64 s.n), AV.d (.sl (List.map ckD s.fl)), AV.d (.sl (List.map ivD s.cm))]) ∧ (True))))))) (h := {}) (subs := []) (ws := []) (ρ := []) (by kernel_rfl) ?_
  repeat' (with_reducible first | exact True.intro | apply And.intro | (first | apply zA | apply zB | apply zC | apply zD | apply zE | apply zF | apply zG) <;> intro)
  all_goals (try simp only [List.length_map, AV.d.injEq, D.int.injEq, D.bool.injEq, D.str.injEq, D.sl.injEq, true_and, and_true, decide_eq_true_eq, decide_eq_false_iff_not, decide_eq_decide])
  all_goals (try simp only [List.length_map] at *)
  all_goals first | rfl | omega

set_option maxRecDepth 100000 in
set_option maxHeartbeats 1000000 in
theorem old17 (s : Sq) (p : Int × Bool) (hL : Loops Try.prog 0 (loopN Try.prog 17 0) ((I17 s (0, false) 0).as 37) (.exit 0) ((I17 s p s.fl.length).as 37)) : FnOK Try.prog 17 ([.d (sqD s)]) ([]) (.tup [.d (.int .i64 p.1), .d (.bool p.2)]) ([]) := by
  refine fnOK_wp (p := (AV.ptr 1008 0 = AV.ptr 1008 0) ∧ ((AV.d (.int .i64 (0 : Int)) = AV.d (.int .i64 (0 : Int))) ∧ ((AV.d (.bool false) = AV.d (.bool false)) ∧ ((AV.d (.int .i64 (0 : Int)) = AV.d (.int .i64 (0 : Int))) ∧ ((Ob.box [AV.d (.int .i64 s.b), AV.d (.str s.d), AV.d (.int .i64 s.n), AV.d (.sl (List.map ckD s.fl)), AV.d (.sl (List.map ivD s.cm))] = Ob.box [AV.d (.int .i64 s.b), AV.d (.str s.d), AV.d (.int .i64 s.n), AV.d (.sl (List.map ckD s.fl)), AV.d (.sl (List.map ivD s.cm))]) ∧ ((LoopsS Try.prog 0 (loopN Try.prog 17 0) (I17 s ((0 : Int), false) 0) (Exit.exit 0) (I17 s p s.fl.length) 37) ∧ ((AV.tup [AV.d (.int .i64 p.fst), AV.d (.bool p.snd)] = AV.tup [AV.d (.int .i64 p.fst), AV.d (.bool p.snd)]) ∧ (True)))))))) (h := {}) (subs := [⟨[], [], I17 s (0, false) 0, .exit 0, I17 s p s.fl.length⟩]) (ws := []) (ρ := []) (by kernel_rfl) ?_
  repeat' (with_reducible first | exact True.intro | apply And.intro | (first | apply zA | apply zB | apply zC | apply zD | apply zE | apply zF | apply zG) <;> intro)
  all_goals first | exact hL | rfl | skip

theorem step17 (s : Sq) (hl : s.fl.length < 1000000) (p : Int × Bool) (j : Nat) (c : Ck) (hn : s.fl[j]? = some c) : Runs Try.prog 0 (loopN Try.prog 17 0) ((I17 s p j).as 37) .normal ((I17 s (oldS p c) (j+1)).as 37) := by
  obtain ⟨u, q⟩ := p
  rcases oldS_cases u q c with ⟨h1, e⟩ | ⟨h1, h2, e⟩ | ⟨h1, h2, h3, e⟩ | ⟨h1, h2, h3, e⟩ <;> rw [e]
  · exact r17a s hl u q j c hn h1 trivial
  · exact r17b s hl u q j c hn h1 h2
  · exact r17c s hl u q j c hn h1 h2 h3
  · exact r17d s hl u q j c hn h1 h2 h3
theorem oldest17 (s : Sq) (hl : s.fl.length < 1000000) : FnOK Try.prog 17 [.d (sqD s)] [] (.tup [.d (.int .i64 (rOldest s).1), .d (.bool (rOldest s).2)]) [] := by
  have hL := loops_n (P := Try.prog) (k := 0) (c := loopN Try.prog 17 0) (e := .exit 0) (I := fun j => (I17 s ((s.fl.take j).foldl oldS (0, false)) j).as 37) (by simp) s.fl.length 0 (by omega) (fun j _ hj => by
    have hn := get_of hj
    show Runs _ _ _ _ _ ((I17 s ((s.fl.take (j + 1)).foldl oldS (0, false)) (j + 1)).as _)
    rw [take_snoc hn, List.foldl_append]
    exact step17 s hl _ j _ hn) (by simp only [List.take_length]; exact q17 s _)
  exact old17 s _ hL
/-! ### Same -/
def I18 (a b : Sq) (j : Nat) : St := ⟨[(2, .ptr 0 0), (3, .ptr 1 0), (5, .d (.int .i64 j))], [(0, sqB a), (1, sqB b)]⟩
set_option maxRecDepth 100000 in
set_option maxHeartbeats 1000000 in
theorem r18 (a b : Sq) (hl : a.fl.length < 1000000) (j : Nat) (x y : Ck) (hx : a.fl[j]? = some x) (hy : b.fl[j]? = some y) (q : Bool) (hq : (!(x.f == y.f && (x.t == y.t && (x.s == y.s && (x.r == y.r && (x.l == y.l && true)))))) = q) (hqt : q = false) : Runs Try.prog 0 (loopN Try.prog 18 0) (St.as (I18 a b j) 57) (.normal) (St.as (I18 a b (j+1)) 57) := by
  refine round_wp (p := condP (decide ((↑j : Int) < (↑(List.map ckD a.fl).length : Int))) (((0 : Int) ≤ (↑j : Int)) ∧ (((List.map ckD a.fl)[(↑j : Int).toNat]? = some (D.agg [D.int .i64 x.f, D.int .i64 x.t, D.int .i64 x.s, D.int .i64 x.r, D.bool x.l])) ∧ (((0 : Int) ≤ (↑j : Int)) ∧ (((List.map ckD b.fl)[(↑j : Int).toNat]? = some (D.agg [D.int .i64 y.f, D.int .i64 y.t, D.int .i64 y.s, D.int .i64 y.r, D.bool y.l])) ∧ (((D.bool !(x.f == y.f && (x.t == y.t && (x.s == y.s && (x.r == y.r && (x.l == y.l && true)))))) = D.bool false) ∧ ((AV.ptr 0 0 = AV.ptr 0 0) ∧ ((AV.ptr 1 0 = AV.ptr 1 0) ∧ ((AV.d (.int .i64 (IntKind.i64.wrap ((↑j : Int) + (1 : Int)))) = AV.d (.int .i64 (↑(j + 1) : Int))) ∧ ((Ob.box [AV.d (.int .i64 a.b), AV.d (.str a.d), AV.d (.int .i64 a.n), AV.d (.sl (List.map ckD a.fl)), AV.d (.sl (List.map ivD a.cm))] = Ob.box [AV.d (.int .i64 a.b), AV.d (.str a.d), AV.d (.int .i64 a.n), AV.d (.sl (List.map ckD a.fl)), AV.d (.sl (List.map ivD a.cm))]) ∧ ((Ob.box [AV.d (.int .i64 b.b), AV.d (.str b.d), AV.d (.int .i64 b.n), AV.d (.sl (List.map ckD b.fl)), AV.d (.sl (List.map ivD b.cm))] = Ob.box [AV.d (.int .i64 b.b), AV.d (.str b.d), AV.d (.int .i64 b.n), AV.d (.sl (List.map ckD b.fl)), AV.d (.sl (List.map ivD b.cm))]) ∧ (True))))))))))) (False)) (h := {els := [(21, .el (ckD x)), (26, .el (ckD y))], H := [(6, [(10, .val (.bool false))])]}) (subs := []) (ws := []) (ρ := []) (by kernel_rfl) ?_
  have hj := get_lt hx
  have hi := inc_i64 (j := j) (by omega)
  try simp only [hi]
  simp only [List.length_map]
  refine condP_t (by rw [decide_eq_true_eq]; omega) ?_
  repeat' (with_reducible first | exact True.intro | apply And.intro | (first | apply zA | apply zB | apply zC | apply zD | apply zE | apply zF | apply zG) <;> intro)
  all_goals first | exact el_map hx rfl | exact el_map hy rfl | rfl | omega | (refine congrArg D.bool ?_; rw [hq, hqt]; done) | (refine congrArg D.bool ?_; exact hq.trans hqt) | skip

set_option maxRecDepth 100000 in
set_option maxHeartbeats 1000000 in
theorem e18 (a b : Sq) (hl : a.fl.length < 1000000) (j : Nat) (x y : Ck) (hx : a.fl[j]? = some x) (hy : b.fl[j]? = some y) (q : Bool) (hq : (!(x.f == y.f && (x.t == y.t && (x.s == y.s && (x.r == y.r && (x.l == y.l && true)))))) = q) (hqt : q = true) : Runs Try.prog 0 (loopN Try.prog 18 0) (St.as (I18 a b j) 57) (.ret) (St.as (⟨[(4, .d (.bool false))], []⟩) 57) := by
  refine round_wp (p := condP (decide ((↑j : Int) < (↑(List.map ckD a.fl).length : Int))) (((0 : Int) ≤ (↑j : Int)) ∧ (((List.map ckD a.fl)[(↑j : Int).toNat]? = some (D.agg [D.int .i64 x.f, D.int .i64 x.t, D.int .i64 x.s, D.int .i64 x.r, D.bool x.l])) ∧ (((0 : Int) ≤ (↑j : Int)) ∧ (((List.map ckD b.fl)[(↑j : Int).toNat]? = some (D.agg [D.int .i64 y.f, D.int .i64 y.t, D.int .i64 y.s, D.int .i64 y.r, D.bool y.l])) ∧ (((D.bool !(x.f == y.f && (x.t == y.t && (x.s == y.s && (x.r == y.r && (x.l == y.l && true)))))) = D.bool true) ∧ ((AV.d (.bool false) = AV.d (.bool false)) ∧ (True))))))) (False)) (h := {els := [(21, .el (ckD x)), (26, .el (ckD y))], H := [(6, [(10, .val (.bool true))])]}) (subs := []) (ws := []) (ρ := []) (by kernel_rfl) ?_
  have hj := get_lt hx
  have hi := inc_i64 (j := j) (by omega)
  try simp only [hi]
  simp only [List.length_map]
  refine condP_t (by rw [decide_eq_true_eq]; omega) ?_
  repeat' (with_reducible first | exact True.intro | apply And.intro | (first | apply zA | apply zB | apply zC | apply zD | apply zE | apply zF | apply zG) <;> intro)
  all_goals first | exact el_map hx rfl | exact el_map hy rfl | rfl | omega | (refine congrArg D.bool ?_; rw [hq, hqt]; done) | (refine congrArg D.bool ?_; exact hq.trans hqt) | skip

set_option maxRecDepth 100000 in
set_option maxHeartbeats 1000000 in
theorem q18 (a b : Sq) : Runs Try.prog 0 (loopN Try.prog 18 0) (St.as (I18 a b a.fl.length) 57) (.exit 0) (St.as (I18 a b a.fl.length) 57) := by
  refine round_wp (p := condP (decide ((↑a.fl.length : Int) < (↑(List.map ckD a.fl).length : Int))) (False) ((AV.ptr 0 0 = AV.ptr 0 0) ∧ ((AV.ptr 1 0 = AV.ptr 1 0) ∧ ((AV.d (.int .i64 (↑a.fl.length : Int)) = AV.d (.int .i64 (↑a.fl.length : Int))) ∧ ((Ob.box [AV.d (.int .i64 a.b), AV.d (.str a.d), AV.d (.int .i64 a.n), AV.d (.sl (List.map ckD a.fl)), AV.d (.sl (List.map ivD a.cm))] = Ob.box [AV.d (.int .i64 a.b), AV.d (.str a.d), AV.d (.int .i64 a.n), AV.d (.sl (List.map ckD a.fl)), AV.d (.sl (List.map ivD a.cm))]) ∧ ((Ob.box [AV.d (.int .i64 b.b), AV.d (.str b.d), AV.d (.int .i64 b.n), AV.d (.sl (List.map ckD b.fl)), AV.d (.sl (List.map ivD b.cm))] = Ob.box [AV.d (.int .i64 b.b), AV.d (.str b.d), AV.d (.int .i64 b.n), AV.d (.sl (List.map ckD b.fl)), AV.d (.sl (List.map ivD b.cm))]) ∧ (True))))))) (h := {}) (subs := []) (ws := []) (ρ := []) (by kernel_rfl) ?_
  repeat' (with_reducible first | exact True.intro | apply And.intro | (first | apply zA | apply zB | apply zC | apply zD | apply zE | apply zF | apply zG) <;> intro)
  all_goals (try simp only [List.length_map, AV.d.injEq, D.int.injEq, D.bool.injEq, D.str.injEq, D.sl.injEq, true_and, and_true, decide_eq_true_eq, decide_eq_false_iff_not, decide_eq_decide])
  all_goals (try simp only [List.length_map] at *)
  all_goals first | rfl | omega

set_option maxRecDepth 100000 in
set_option maxHeartbeats 1000000 in
theorem same18l (a b : Sq) (h : a.fl.length ≠ b.fl.length) (k1 hL : True) : FnOK Try.prog 18 ([.d (sqD a), .d (sqD b)]) ([]) (.d (.bool false)) ([]) := by
  refine fnOK_wp (p := (D.bool ((↑(List.map ckD a.fl).length : Int) != (↑(List.map ckD b.fl).length : Int)) = D.bool true) ∧ ((AV.d (.bool false) = AV.d (.bool false)) ∧ (True))) (h := {H := [(1, [(6, .val (.bool true))])]}) (subs := []) (ws := []) (ρ := []) (by kernel_rfl) ?_
  simp only [List.length_map]
  repeat' (with_reducible first | exact True.intro | apply And.intro | (first | apply zA | apply zB | apply zC | apply zD | apply zE | apply zF | apply zG) <;> intro)
  all_goals first | exact k1 | exact hL | rfl | exact dno (by omega) | (refine congrArg D.bool ?_; simp; omega) | (refine congrArg D.bool ?_; simp [h]; done) | (simp_all; done) | skip

set_option maxRecDepth 100000 in
set_option maxHeartbeats 1000000 in
theorem same18n (a b : Sq) (h : a.fl.length = b.fl.length) (k1 : True) (hL : Loops Try.prog 0 (loopN Try.prog 18 0) ((I18 a b 0).as 57) .ret ((⟨[(4, .d (.bool false))], []⟩ : St).as 57)) : FnOK Try.prog 18 ([.d (sqD a), .d (sqD b)]) ([]) (.d (.bool false)) ([]) := by
  refine fnOK_wp (p := (D.bool ((↑(List.map ckD a.fl).length : Int) != (↑(List.map ckD b.fl).length : Int)) = D.bool false) ∧ ((AV.ptr 1016 0 = AV.ptr 1016 0) ∧ ((AV.ptr 1024 0 = AV.ptr 1024 0) ∧ ((AV.d (.int .i64 (0 : Int)) = AV.d (.int .i64 (0 : Int))) ∧ ((Ob.box [AV.d (.int .i64 a.b), AV.d (.str a.d), AV.d (.int .i64 a.n), AV.d (.sl (List.map ckD a.fl)), AV.d (.sl (List.map ivD a.cm))] = Ob.box [AV.d (.int .i64 a.b), AV.d (.str a.d), AV.d (.int .i64 a.n), AV.d (.sl (List.map ckD a.fl)), AV.d (.sl (List.map ivD a.cm))]) ∧ ((Ob.box [AV.d (.int .i64 b.b), AV.d (.str b.d), AV.d (.int .i64 b.n), AV.d (.sl (List.map ckD b.fl)), AV.d (.sl (List.map ivD b.cm))] = Ob.box [AV.d (.int .i64 b.b), AV.d (.str b.d), AV.d (.int .i64 b.n), AV.d (.sl (List.map ckD b.fl)), AV.d (.sl (List.map ivD b.cm))]) ∧ ((LoopsS Try.prog 0 (loopN Try.prog 18 0) (I18 a b 0) Exit.ret (St.mk [(4, AV.d (.bool false))] []) 57) ∧ ((AV.d (.bool false) = AV.d (.bool false)) ∧ (True))))))))) (h := {H := [(1, [(6, .val (.bool false))])]}) (subs := [⟨[], [], I18 a b 0, .ret, ⟨[(4, .d (.bool false))], []⟩⟩]) (ws := []) (ρ := []) (by kernel_rfl) ?_
  simp only [List.length_map]
  repeat' (with_reducible first | exact True.intro | apply And.intro | (first | apply zA | apply zB | apply zC | apply zD | apply zE | apply zF | apply zG) <;> intro)
  all_goals first | exact k1 | exact hL | rfl | exact dno (by omega) | (refine congrArg D.bool ?_; simp; omega) | (refine congrArg D.bool ?_; simp [h]; done) | (simp_all; done) | skip

set_option maxRecDepth 100000 in
set_option maxHeartbeats 1000000 in
theorem same18y (a b : Sq) (h : a.fl.length = b.fl.length) (k1 : FnOK Try.prog 43 [.d (.sl (a.cm.map ivD)), .d (.sl (b.cm.map ivD))] [] (.d (.bool (decide (a.cm = b.cm)))) []) (hL : Loops Try.prog 0 (loopN Try.prog 18 0) ((I18 a b 0).as 57) (.exit 0) ((I18 a b a.fl.length).as 57)) : FnOK Try.prog 18 ([.d (sqD a), .d (sqD b)]) ([]) (.d (.bool ((a.b == b.b) && ((a.d == b.d) && ((a.n == b.n) && decide (a.cm = b.cm)))))) ([]) := by
  refine fnOK_wp (p := (D.bool ((↑(List.map ckD a.fl).length : Int) != (↑(List.map ckD b.fl).length : Int)) = D.bool false) ∧ ((AV.ptr 1016 0 = AV.ptr 1016 0) ∧ ((AV.ptr 1024 0 = AV.ptr 1024 0) ∧ ((AV.d (.int .i64 (0 : Int)) = AV.d (.int .i64 (0 : Int))) ∧ ((Ob.box [AV.d (.int .i64 a.b), AV.d (.str a.d), AV.d (.int .i64 a.n), AV.d (.sl (List.map ckD a.fl)), AV.d (.sl (List.map ivD a.cm))] = Ob.box [AV.d (.int .i64 a.b), AV.d (.str a.d), AV.d (.int .i64 a.n), AV.d (.sl (List.map ckD a.fl)), AV.d (.sl (List.map ivD a.cm))]) ∧ ((Ob.box [AV.d (.int .i64 b.b), AV.d (.str b.d), AV.d (.int .i64 b.n), AV.d (.sl (List.map ckD b.fl)), AV.d (.sl (List.map ivD b.cm))] = Ob.box [AV.d (.int .i64 b.b), AV.d (.str b.d), AV.d (.int .i64 b.n), AV.d (.sl (List.map ckD b.fl)), AV.d (.sl (List.map ivD b.cm))]) ∧ ((LoopsS Try.prog 0 (loopN Try.prog 18 0) (I18 a b 0) (Exit.exit 0) (I18 a b a.fl.length) 57) ∧ (condP (a.b == b.b) (condP (a.d == b.d) (condP (a.n == b.n) ((D.bool (a.b == b.b) = D.bool true) ∧ ((D.bool (a.d == b.d) = D.bool true) ∧ ((D.bool (a.n == b.n) = D.bool true) ∧ ((FnOK Try.prog 43 [AV.d (.sl (List.map ivD a.cm)), AV.d (.sl (List.map ivD b.cm))] [] (AV.d (.bool (decide (a.cm = b.cm)))) []) ∧ ((AV.d (.bool (decide (a.cm = b.cm))) = AV.d (.bool (a.b == b.b && (a.d == b.d && (a.n == b.n && decide (a.cm = b.cm)))))) ∧ (True)))))) ((D.bool (a.b == b.b) = D.bool true) ∧ ((D.bool (a.d == b.d) = D.bool true) ∧ ((D.bool (a.n == b.n) = D.bool false) ∧ ((AV.d (.bool false) = AV.d (.bool (a.b == b.b && (a.d == b.d && (a.n == b.n && decide (a.cm = b.cm)))))) ∧ (True)))))) ((D.bool (a.b == b.b) = D.bool true) ∧ ((D.bool (a.d == b.d) = D.bool false) ∧ ((D.bool false = D.bool false) ∧ ((AV.d (.bool false) = AV.d (.bool (a.b == b.b && (a.d == b.d && (a.n == b.n && decide (a.cm = b.cm)))))) ∧ (True)))))) ((D.bool (a.b == b.b) = D.bool false) ∧ ((D.bool false = D.bool false) ∧ ((D.bool false = D.bool false) ∧ ((AV.d (.bool false) = AV.d (.bool (a.b == b.b && (a.d == b.d && (a.n == b.n && decide (a.cm = b.cm)))))) ∧ (True))))))))))))) (h := {H := [(1, [(6, .val (.bool false))]), (8, [(24, .call [] (.d (.bool (decide (a.cm = b.cm)))) [])])]}) (subs := [⟨[], [], I18 a b 0, .exit 0, I18 a b a.fl.length⟩]) (ws := []) (ρ := []) (by kernel_rfl) ?_
  simp only [List.length_map]
  repeat' (with_reducible first | exact True.intro | apply And.intro | (first | apply zA | apply zB | apply zC | apply zD | apply zE | apply zF | apply zG) <;> intro)
  all_goals first | exact k1 | exact hL | rfl | exact dno (by omega) | (refine congrArg D.bool ?_; simp; omega) | (refine congrArg D.bool ?_; simp [h]; done) | (simp_all; done) | skip

theorem same18 (a b : Sq) (ha : SqOk a) : FnOK Try.prog 18 [.d (sqD a), .d (sqD b)] [] (.d (.bool (decide (a = b)))) [] := by
  have hf := ha.fl
  rw [sq_dec]
  by_cases h : a.fl.length = b.fl.length
  · rcases diff_or a.fl b.fl h with e | ⟨m, x, y, h1, h2, h3, h4⟩
    · rw [decide_eq_true e, Bool.true_and]
      exact same18y a b h (same9 a.cm b.cm (by have := ha.cm; omega)) (loops_n (I := fun j => (I18 a b j).as 57) (by simp) a.fl.length 0 (by omega) (fun j _ hj => r18 a b (by omega) j _ _ (get_of hj) (by rw [← e]; exact get_of hj) false (by simp) rfl) (q18 a b))
    · have hm := get_lt h1
      rw [decide_eq_false (by intro e; rw [e] at h1; rw [h1] at h2; cases h2; exact h3 rfl)]
      have := same18n a b h trivial (loops_n (I := fun j => (I18 a b j).as 57) (by simp) m 0 (by omega) (fun j _ hj => r18 a b (by omega) j (a.fl[j]'(by omega)) (a.fl[j]'(by omega)) (get_of (by omega)) (h4 j _ hj (get_of (by omega))) false (by simp) rfl) (e18 a b (by omega) m x y h1 h2 true (by rw [ckD_ne h3]; rfl) rfl))
      simpa using this
  · have := same18l a b h trivial trivial
    rw [decide_eq_false (by intro e; exact h (by rw [e]))]
    simpa using this
/-! ### Few; handed over -/
def lightB (s : Sq) : Bool := decide ((s.d.length : Int) ≤ 5000) && (decide ((s.fl.length : Int) ≤ 40) && decide ((s.cm.length : Int) ≤ 20))
set_option maxRecDepth 100000 in
set_option maxHeartbeats 1000000 in
theorem light7 (s : Sq) : FnOK Try.prog 7 ([.d (sqD s)]) ([]) (.d (.bool (lightB s))) ([]) := by
  refine fnOK_wp (p := condP (decide ((↑s.d.length : Int) ≤ (5000 : Int))) (condP (decide ((↑(List.map ckD s.fl).length : Int) ≤ (40 : Int))) ((D.bool (decide ((↑s.d.length : Int) ≤ (5000 : Int))) = D.bool true) ∧ ((D.bool (decide ((↑(List.map ckD s.fl).length : Int) ≤ (40 : Int))) = D.bool true) ∧ ((AV.d (.bool (decide ((↑(List.map ivD s.cm).length : Int) ≤ (20 : Int)))) = AV.d (.bool (lightB s))) ∧ (True)))) ((D.bool (decide ((↑s.d.length : Int) ≤ (5000 : Int))) = D.bool true) ∧ ((D.bool (decide ((↑(List.map ckD s.fl).length : Int) ≤ (40 : Int))) = D.bool false) ∧ ((AV.d (.bool false) = AV.d (.bool (lightB s))) ∧ (True))))) ((D.bool (decide ((↑s.d.length : Int) ≤ (5000 : Int))) = D.bool false) ∧ ((D.bool false = D.bool false) ∧ ((AV.d (.bool false) = AV.d (.bool (lightB s))) ∧ (True))))) (h := {}) (subs := []) (ws := []) (ρ := []) (by kernel_rfl) ?_
  unfold lightB
  simp only [List.length_map]
  repeat' (with_reducible first | exact True.intro | apply And.intro | (first | apply zA | apply zB | apply zC | apply zD | apply zE | apply zF | apply zG) <;> intro)
  all_goals first | rfl | exact dyes ‹_› | exact dno ‹_› | (refine congrArg (fun z => AV.d (.bool z)) ?_; simp_all; done) | (refine congrArg D.bool ?_; simp_all; done) | (refine congrArg (fun z => AV.d (.bool z)) ?_; simp_all; omega) | (refine congrArg D.bool ?_; simp_all; omega) | skip

def I9 (x : Sq) (j : Nat) : St := ⟨[(1, .ptr 0 0), (2, .ptr 1 0), (3, .ptr 2 0), (4, .d (.int .i64 j))], [(0, sqB x), (1, sqZ), (2, .box [.d (.int .i64 x.b), .d (.str x.d), .d (.int .i64 x.n), .own 3 5, .d (.sl (x.cm.map ivD))]), (3, .row 5 ((x.fl.take j).map ckD))]⟩
set_option maxRecDepth 100000 in
set_option maxHeartbeats 1000000 in
theorem r9 (x : Sq) (hl : x.fl.length < 1000000) (j : Nat) (y : Ck) (hn : x.fl[j]? = some y) : Runs Try.prog 0 (loopN Try.prog 9 0) (St.as (I9 x j) 33) (.normal) (St.as (I9 x (j+1)) 33) := by
  refine round_wp (p := condP (decide ((↑j : Int) < (↑(List.map ckD x.fl).length : Int))) (((0 : Int) ≤ (↑j : Int)) ∧ (((List.map ckD x.fl)[(↑j : Int).toNat]? = some (D.agg [D.int .i64 y.f, D.int .i64 y.t, D.int .i64 y.s, D.int .i64 y.r, D.bool y.l])) ∧ ((((List.map ckD (List.take j x.fl)).length + [D.agg (List.take 5 [D.int .i64 y.f, D.int .i64 y.t, D.int .i64 y.s, D.int .i64 y.r, D.bool y.l])].length) * 40 ≤ 140737488355328) ∧ ((∀ (e : D), e ∈ chunk 5 1 [D.int .i64 y.f, D.int .i64 y.t, D.int .i64 y.s, D.int .i64 y.r, D.bool y.l] → e.cells.length = 5) ∧ ((AV.ptr 0 0 = AV.ptr 0 0) ∧ ((AV.ptr 1 0 = AV.ptr 1 0) ∧ ((AV.ptr 2 0 = AV.ptr 2 0) ∧ ((AV.d (.int .i64 (IntKind.i64.wrap ((↑j : Int) + (1 : Int)))) = AV.d (.int .i64 (↑(j + 1) : Int))) ∧ ((Ob.box [AV.d (.int .i64 x.b), AV.d (.str x.d), AV.d (.int .i64 x.n), AV.d (.sl (List.map ckD x.fl)), AV.d (.sl (List.map ivD x.cm))] = Ob.box [AV.d (.int .i64 x.b), AV.d (.str x.d), AV.d (.int .i64 x.n), AV.d (.sl (List.map ckD x.fl)), AV.d (.sl (List.map ivD x.cm))]) ∧ ((Ob.box [AV.d (.int .i64 (0 : Int)), AV.d (.str []), AV.d (.int .i64 (0 : Int)), AV.raw (Value.slice none 0 0), AV.raw (Value.slice none 0 0)] = Ob.box [AV.d (.int .i64 (0 : Int)), AV.d (.str []), AV.d (.int .i64 (0 : Int)), AV.raw (Value.slice none 0 0), AV.raw (Value.slice none 0 0)]) ∧ ((Ob.box [AV.d (.int .i64 x.b), AV.d (.str x.d), AV.d (.int .i64 x.n), AV.own 1240 5, AV.d (.sl (List.map ivD x.cm))] = Ob.box [AV.d (.int .i64 x.b), AV.d (.str x.d), AV.d (.int .i64 x.n), AV.own 1240 5, AV.d (.sl (List.map ivD x.cm))]) ∧ ((Ob.row 5 (List.map ckD (List.take j x.fl) ++ [D.agg (List.take 5 [D.int .i64 y.f, D.int .i64 y.t, D.int .i64 y.s, D.int .i64 y.r, D.bool y.l])]) = Ob.row 5 (List.map ckD (List.take (j + 1) x.fl))) ∧ (True))))))))))))) (False)) (h := {els := [(25, .el (ckD y))]}) (subs := []) (ws := []) (ρ := []) (by kernel_rfl) ?_
  have hj := get_lt hn
  rw [inc_i64 (by omega), take_map_snoc _ hn]
  refine condP_t (by rw [decide_eq_true_eq, List.length_map]; omega) ?_
  repeat' (with_reducible first | exact True.intro | apply And.intro | (first | apply zA | apply zB | apply zC | apply zD | apply zE | apply zF | apply zG) <;> intro)
  all_goals first | exact el_map hn rfl | rfl | omega | (simp; omega) | (simp [chunk, ckD, D.cells]; done) | skip

set_option maxRecDepth 100000 in
set_option maxHeartbeats 1000000 in
theorem q9 (x : Sq) : Runs Try.prog 0 (loopN Try.prog 9 0) (St.as (I9 x x.fl.length) 33) (.exit 0) (St.as (I9 x x.fl.length) 33) := by
  refine round_wp (p := condP (decide ((↑x.fl.length : Int) < (↑(List.map ckD x.fl).length : Int))) (False) ((AV.ptr 0 0 = AV.ptr 0 0) ∧ ((AV.ptr 1 0 = AV.ptr 1 0) ∧ ((AV.ptr 2 0 = AV.ptr 2 0) ∧ ((AV.d (.int .i64 (↑x.fl.length : Int)) = AV.d (.int .i64 (↑x.fl.length : Int))) ∧ ((Ob.box [AV.d (.int .i64 x.b), AV.d (.str x.d), AV.d (.int .i64 x.n), AV.d (.sl (List.map ckD x.fl)), AV.d (.sl (List.map ivD x.cm))] = Ob.box [AV.d (.int .i64 x.b), AV.d (.str x.d), AV.d (.int .i64 x.n), AV.d (.sl (List.map ckD x.fl)), AV.d (.sl (List.map ivD x.cm))]) ∧ ((Ob.box [AV.d (.int .i64 (0 : Int)), AV.d (.str []), AV.d (.int .i64 (0 : Int)), AV.raw (Value.slice none 0 0), AV.raw (Value.slice none 0 0)] = Ob.box [AV.d (.int .i64 (0 : Int)), AV.d (.str []), AV.d (.int .i64 (0 : Int)), AV.raw (Value.slice none 0 0), AV.raw (Value.slice none 0 0)]) ∧ ((Ob.box [AV.d (.int .i64 x.b), AV.d (.str x.d), AV.d (.int .i64 x.n), AV.own 3 5, AV.d (.sl (List.map ivD x.cm))] = Ob.box [AV.d (.int .i64 x.b), AV.d (.str x.d), AV.d (.int .i64 x.n), AV.own 3 5, AV.d (.sl (List.map ivD x.cm))]) ∧ ((Ob.row 5 (List.map ckD (List.take x.fl.length x.fl)) = Ob.row 5 (List.map ckD (List.take x.fl.length x.fl))) ∧ (True)))))))))) (h := {}) (subs := []) (ws := []) (ρ := []) (by kernel_rfl) ?_
  repeat' (with_reducible first | exact True.intro | apply And.intro | (first | apply zA | apply zB | apply zC | apply zD | apply zE | apply zF | apply zG) <;> intro)
  all_goals (try simp only [List.length_map, AV.d.injEq, D.int.injEq, D.bool.injEq, D.str.injEq, D.sl.injEq, true_and, and_true, decide_eq_true_eq, decide_eq_false_iff_not, decide_eq_decide])
  all_goals (try simp only [List.length_map] at *)
  all_goals first | rfl | omega

set_option maxRecDepth 100000 in
set_option maxHeartbeats 1000000 in
theorem r19 (x : Sq) (hl : x.fl.length < 1000000) (j : Nat) (y : Ck) (hn : x.fl[j]? = some y) : Runs Try.prog 0 (loopN Try.prog 19 0) (St.as (I9 x j) 33) (.normal) (St.as (I9 x (j+1)) 33) := by
  refine round_wp (p := condP (decide ((↑j : Int) < (↑(List.map ckD x.fl).length : Int))) (((0 : Int) ≤ (↑j : Int)) ∧ (((List.map ckD x.fl)[(↑j : Int).toNat]? = some (D.agg [D.int .i64 y.f, D.int .i64 y.t, D.int .i64 y.s, D.int .i64 y.r, D.bool y.l])) ∧ ((((List.map ckD (List.take j x.fl)).length + [D.agg (List.take 5 [D.int .i64 y.f, D.int .i64 y.t, D.int .i64 y.s, D.int .i64 y.r, D.bool y.l])].length) * 40 ≤ 140737488355328) ∧ ((∀ (e : D), e ∈ chunk 5 1 [D.int .i64 y.f, D.int .i64 y.t, D.int .i64 y.s, D.int .i64 y.r, D.bool y.l] → e.cells.length = 5) ∧ ((AV.ptr 0 0 = AV.ptr 0 0) ∧ ((AV.ptr 1 0 = AV.ptr 1 0) ∧ ((AV.ptr 2 0 = AV.ptr 2 0) ∧ ((AV.d (.int .i64 (IntKind.i64.wrap ((↑j : Int) + (1 : Int)))) = AV.d (.int .i64 (↑(j + 1) : Int))) ∧ ((Ob.box [AV.d (.int .i64 x.b), AV.d (.str x.d), AV.d (.int .i64 x.n), AV.d (.sl (List.map ckD x.fl)), AV.d (.sl (List.map ivD x.cm))] = Ob.box [AV.d (.int .i64 x.b), AV.d (.str x.d), AV.d (.int .i64 x.n), AV.d (.sl (List.map ckD x.fl)), AV.d (.sl (List.map ivD x.cm))]) ∧ ((Ob.box [AV.d (.int .i64 (0 : Int)), AV.d (.str []), AV.d (.int .i64 (0 : Int)), AV.raw (Value.slice none 0 0), AV.raw (Value.slice none 0 0)] = Ob.box [AV.d (.int .i64 (0 : Int)), AV.d (.str []), AV.d (.int .i64 (0 : Int)), AV.raw (Value.slice none 0 0), AV.raw (Value.slice none 0 0)]) ∧ ((Ob.box [AV.d (.int .i64 x.b), AV.d (.str x.d), AV.d (.int .i64 x.n), AV.own 1240 5, AV.d (.sl (List.map ivD x.cm))] = Ob.box [AV.d (.int .i64 x.b), AV.d (.str x.d), AV.d (.int .i64 x.n), AV.own 1240 5, AV.d (.sl (List.map ivD x.cm))]) ∧ ((Ob.row 5 (List.map ckD (List.take j x.fl) ++ [D.agg (List.take 5 [D.int .i64 y.f, D.int .i64 y.t, D.int .i64 y.s, D.int .i64 y.r, D.bool y.l])]) = Ob.row 5 (List.map ckD (List.take (j + 1) x.fl))) ∧ (True))))))))))))) (False)) (h := {els := [(25, .el (ckD y))]}) (subs := []) (ws := []) (ρ := []) (by kernel_rfl) ?_
  have hj := get_lt hn
  rw [inc_i64 (by omega), take_map_snoc _ hn]
  refine condP_t (by rw [decide_eq_true_eq, List.length_map]; omega) ?_
  repeat' (with_reducible first | exact True.intro | apply And.intro | (first | apply zA | apply zB | apply zC | apply zD | apply zE | apply zF | apply zG) <;> intro)
  all_goals first | exact el_map hn rfl | rfl | omega | (simp; omega) | (simp [chunk, ckD, D.cells]; done) | skip

set_option maxRecDepth 100000 in
set_option maxHeartbeats 1000000 in
theorem q19 (x : Sq) : Runs Try.prog 0 (loopN Try.prog 19 0) (St.as (I9 x x.fl.length) 33) (.exit 0) (St.as (I9 x x.fl.length) 33) := by
  refine round_wp (p := condP (decide ((↑x.fl.length : Int) < (↑(List.map ckD x.fl).length : Int))) (False) ((AV.ptr 0 0 = AV.ptr 0 0) ∧ ((AV.ptr 1 0 = AV.ptr 1 0) ∧ ((AV.ptr 2 0 = AV.ptr 2 0) ∧ ((AV.d (.int .i64 (↑x.fl.length : Int)) = AV.d (.int .i64 (↑x.fl.length : Int))) ∧ ((Ob.box [AV.d (.int .i64 x.b), AV.d (.str x.d), AV.d (.int .i64 x.n), AV.d (.sl (List.map ckD x.fl)), AV.d (.sl (List.map ivD x.cm))] = Ob.box [AV.d (.int .i64 x.b), AV.d (.str x.d), AV.d (.int .i64 x.n), AV.d (.sl (List.map ckD x.fl)), AV.d (.sl (List.map ivD x.cm))]) ∧ ((Ob.box [AV.d (.int .i64 (0 : Int)), AV.d (.str []), AV.d (.int .i64 (0 : Int)), AV.raw (Value.slice none 0 0), AV.raw (Value.slice none 0 0)] = Ob.box [AV.d (.int .i64 (0 : Int)), AV.d (.str []), AV.d (.int .i64 (0 : Int)), AV.raw (Value.slice none 0 0), AV.raw (Value.slice none 0 0)]) ∧ ((Ob.box [AV.d (.int .i64 x.b), AV.d (.str x.d), AV.d (.int .i64 x.n), AV.own 3 5, AV.d (.sl (List.map ivD x.cm))] = Ob.box [AV.d (.int .i64 x.b), AV.d (.str x.d), AV.d (.int .i64 x.n), AV.own 3 5, AV.d (.sl (List.map ivD x.cm))]) ∧ ((Ob.row 5 (List.map ckD (List.take x.fl.length x.fl)) = Ob.row 5 (List.map ckD (List.take x.fl.length x.fl))) ∧ (True)))))))))) (h := {}) (subs := []) (ws := []) (ρ := []) (by kernel_rfl) ?_
  repeat' (with_reducible first | exact True.intro | apply And.intro | (first | apply zA | apply zB | apply zC | apply zD | apply zE | apply zF | apply zG) <;> intro)
  all_goals (try simp only [List.length_map, AV.d.injEq, D.int.injEq, D.bool.injEq, D.str.injEq, D.sl.injEq, true_and, and_true, decide_eq_true_eq, decide_eq_false_iff_not, decide_eq_decide])
  all_goals (try simp only [List.length_map] at *)
  all_goals first | rfl | omega

set_option maxRecDepth 100000 in
set_option maxHeartbeats 1000000 in
theorem own9' (x : Sq) (k1 : FnOK Try.prog 21 [.d (.sl (x.cm.map ivD))] [] (.d (.sl (x.cm.map ivD))) []) (h : Loops Try.prog 0 (loopN Try.prog 9 0) ((I9 x 0).as 33) (.exit 0) ((I9 x x.fl.length).as 33)) : FnOK Try.prog 9 ([.d (sqD x)]) ([]) (.d (sqD x)) ([]) := by
  refine fnOK_wp (p := (FnOK Try.prog 21 [AV.d (.sl (List.map ivD x.cm))] [] (AV.d (.sl (List.map ivD x.cm))) []) ∧ ((AV.ptr 1008 0 = AV.ptr 1008 0) ∧ ((AV.ptr 1016 0 = AV.ptr 1016 0) ∧ ((AV.ptr 1024 0 = AV.ptr 1024 0) ∧ ((AV.d (.int .i64 (0 : Int)) = AV.d (.int .i64 (0 : Int))) ∧ ((Ob.box [AV.d (.int .i64 x.b), AV.d (.str x.d), AV.d (.int .i64 x.n), AV.d (.sl (List.map ckD x.fl)), AV.d (.sl (List.map ivD x.cm))] = Ob.box [AV.d (.int .i64 x.b), AV.d (.str x.d), AV.d (.int .i64 x.n), AV.d (.sl (List.map ckD x.fl)), AV.d (.sl (List.map ivD x.cm))]) ∧ ((Ob.box [AV.d (.int .i64 (0 : Int)), AV.d (.str []), AV.d (.int .i64 (0 : Int)), AV.raw (Value.slice none 0 0), AV.raw (Value.slice none 0 0)] = Ob.box [AV.d (.int .i64 (0 : Int)), AV.d (.str []), AV.d (.int .i64 (0 : Int)), AV.raw (Value.slice none 0 0), AV.raw (Value.slice none 0 0)]) ∧ ((Ob.box [AV.d (.int .i64 x.b), AV.d (.str x.d), AV.d (.int .i64 x.n), AV.own 500 5, AV.d (.sl (List.map ivD x.cm))] = Ob.box [AV.d (.int .i64 x.b), AV.d (.str x.d), AV.d (.int .i64 x.n), AV.own 500 5, AV.d (.sl (List.map ivD x.cm))]) ∧ ((Ob.row 5 [] = Ob.row 5 []) ∧ ((LoopsS Try.prog 0 (loopN Try.prog 9 0) (I9 x 0) (Exit.exit 0) (I9 x x.fl.length) 33) ∧ ((AV.d (.agg [D.int .i64 x.b, D.str x.d, D.int .i64 x.n, D.sl (List.map ckD (List.take x.fl.length x.fl)), D.sl (List.map ivD x.cm)]) = AV.d (.agg [D.int .i64 x.b, D.str x.d, D.int .i64 x.n, D.sl (List.map ckD x.fl), D.sl (List.map ivD x.cm)])) ∧ (True)))))))))))) (h := {W := [(2, [.nilcell 1024 3 500 5])], H := [(1, [(8, .call [] (.d (.sl (x.cm.map ivD))) [])])]}) (subs := [⟨[], [], I9 x 0, .exit 0, I9 x x.fl.length⟩]) (ws := []) (ρ := []) (by kernel_rfl) ?_
  repeat' (with_reducible first | exact True.intro | apply And.intro | (first | apply zA | apply zB | apply zC | apply zD | apply zE | apply zF | apply zG) <;> intro)
  all_goals first | exact h | exact k1 | rfl | (rw [List.take_length]) | (rw [List.take_length]; rfl) | skip

set_option maxRecDepth 100000 in
set_option maxHeartbeats 1000000 in
theorem back19' (x : Sq) (k1 : FnOK Try.prog 44 [.d (.sl (x.cm.map ivD))] [] (.d (.sl (x.cm.map ivD))) []) (h : Loops Try.prog 0 (loopN Try.prog 19 0) ((I9 x 0).as 33) (.exit 0) ((I9 x x.fl.length).as 33)) : FnOK Try.prog 19 ([.d (sqD x)]) ([]) (.d (sqD x)) ([]) := by
  refine fnOK_wp (p := (FnOK Try.prog 44 [AV.d (.sl (List.map ivD x.cm))] [] (AV.d (.sl (List.map ivD x.cm))) []) ∧ ((AV.ptr 1008 0 = AV.ptr 1008 0) ∧ ((AV.ptr 1016 0 = AV.ptr 1016 0) ∧ ((AV.ptr 1024 0 = AV.ptr 1024 0) ∧ ((AV.d (.int .i64 (0 : Int)) = AV.d (.int .i64 (0 : Int))) ∧ ((Ob.box [AV.d (.int .i64 x.b), AV.d (.str x.d), AV.d (.int .i64 x.n), AV.d (.sl (List.map ckD x.fl)), AV.d (.sl (List.map ivD x.cm))] = Ob.box [AV.d (.int .i64 x.b), AV.d (.str x.d), AV.d (.int .i64 x.n), AV.d (.sl (List.map ckD x.fl)), AV.d (.sl (List.map ivD x.cm))]) ∧ ((Ob.box [AV.d (.int .i64 (0 : Int)), AV.d (.str []), AV.d (.int .i64 (0 : Int)), AV.raw (Value.slice none 0 0), AV.raw (Value.slice none 0 0)] = Ob.box [AV.d (.int .i64 (0 : Int)), AV.d (.str []), AV.d (.int .i64 (0 : Int)), AV.raw (Value.slice none 0 0), AV.raw (Value.slice none 0 0)]) ∧ ((Ob.box [AV.d (.int .i64 x.b), AV.d (.str x.d), AV.d (.int .i64 x.n), AV.own 500 5, AV.d (.sl (List.map ivD x.cm))] = Ob.box [AV.d (.int .i64 x.b), AV.d (.str x.d), AV.d (.int .i64 x.n), AV.own 500 5, AV.d (.sl (List.map ivD x.cm))]) ∧ ((Ob.row 5 [] = Ob.row 5 []) ∧ ((LoopsS Try.prog 0 (loopN Try.prog 19 0) (I9 x 0) (Exit.exit 0) (I9 x x.fl.length) 33) ∧ ((AV.d (.agg [D.int .i64 x.b, D.str x.d, D.int .i64 x.n, D.sl (List.map ckD (List.take x.fl.length x.fl)), D.sl (List.map ivD x.cm)]) = AV.d (.agg [D.int .i64 x.b, D.str x.d, D.int .i64 x.n, D.sl (List.map ckD x.fl), D.sl (List.map ivD x.cm)])) ∧ (True)))))))))))) (h := {W := [(2, [.nilcell 1024 3 500 5])], H := [(1, [(8, .call [] (.d (.sl (x.cm.map ivD))) [])])]}) (subs := [⟨[], [], I9 x 0, .exit 0, I9 x x.fl.length⟩]) (ws := []) (ρ := []) (by kernel_rfl) ?_
  repeat' (with_reducible first | exact True.intro | apply And.intro | (first | apply zA | apply zB | apply zC | apply zD | apply zE | apply zF | apply zG) <;> intro)
  all_goals first | exact h | exact k1 | rfl | (rw [List.take_length]) | (rw [List.take_length]; rfl) | skip

theorem own9 (x : Sq) (h : SqOk x) : FnOK Try.prog 9 [.d (sqD x)] [] (.d (sqD x)) [] := own9' x (own8 x.cm (by have := h.cm; omega)) (loops_n (I := fun j => (I9 x j).as 33) (by simp) x.fl.length 0 (by omega) (fun j _ hj => r9 x (by have := h.fl; omega) j x.fl[j] (get_of hj)) (q9 x))
theorem back19 (x : Sq) (h : SqOk x) : FnOK Try.prog 19 [.d (sqD x)] [] (.d (sqD x)) [] := back19' x (back10 x.cm (by have := h.cm; omega)) (loops_n (I := fun j => (I9 x j).as 33) (by simp) x.fl.length 0 (by omega) (fun j _ hj => r19 x (by have := h.fl; omega) j x.fl[j] (get_of hj)) (q19 x))
end Go.Proofs.Ytfllhedkgeljaaa

/-
laws 11: whether an acknowledgement may be; what is left of a chunk; what is lost behind what came: the program's.
-/
set_option linter.unusedSimpArgs false
set_option linter.unusedVariables false
namespace Go.Proofs.Ytfllhedkgeljaaa
open Sx Go.RowKit C06


def ivD_IB (g : Nat) (u : Int) (s : Sq) (l : List Iv) (j : Nat) : St := ⟨[(0, .d (.sl (l.map ivD))), (1, .fn g [.ptr 0 0, .ptr 1 0]), (7, .d (.int .i64 l.length)), (8, .d (.int .i64 j))], [(0, .box [.d (.int .i64 u)]), (1, sqB s)]⟩
def ivD_IOB (g : Nat) (u : Int) (s : Sq) (m : Int) : St := ⟨[(4, .d (.int .i64 m))], [(0, .box [.d (.int .i64 u)]), (1, sqB s)]⟩
set_option maxRecDepth 100000 in
set_option maxHeartbeats 1000000 in
theorem ivD_irB (g : Nat) (u : Int) (s : Sq) (l : List Iv) (hl : l.length < 1073741824) (j : Nat) (x : Iv) (hn : l[j]? = some x) (hx : FnOK Try.prog g [.d (ivD x), .ptr 0 0, .ptr 1 0] [.box [.d (.int .i64 u)], sqB s] (.d (.bool false)) [.box [.d (.int .i64 u)], sqB s]) : Runs Try.prog 2 (loopN Try.prog 85 0) (St.as (ivD_IB g u s l j) 19) (.normal) (St.as (ivD_IB g u s l (j+1)) 19) := by
  refine round_wp (p := condP (decide ((↑j : Int) < (↑l.length : Int))) (((0 : Int) ≤ (↑j : Int)) ∧ (((List.map ivD l)[(↑j : Int).toNat]? = some (D.agg [D.int .i64 x.fst, D.int .i64 x.snd])) ∧ ((FnOK Try.prog g [AV.d (.agg [D.int .i64 x.fst, D.int .i64 x.snd]), AV.ptr 0 0, AV.ptr 1 0] [Ob.box [AV.d (.int .i64 u)], Ob.box [AV.d (.int .i64 s.b), AV.d (.str s.d), AV.d (.int .i64 s.n), AV.d (.sl (List.map ckD s.fl)), AV.d (.sl (List.map ivD s.cm))]] (AV.d (.bool false)) [Ob.box [AV.d (.int .i64 u)], Ob.box [AV.d (.int .i64 s.b), AV.d (.str s.d), AV.d (.int .i64 s.n), AV.d (.sl (List.map ckD s.fl)), AV.d (.sl (List.map ivD s.cm))]]) ∧ ((AV.d (.sl (List.map ivD l)) = AV.d (.sl (List.map ivD l))) ∧ ((AV.fn g [AV.ptr 0 0, AV.ptr 1 0] = AV.fn g [AV.ptr 0 0, AV.ptr 1 0]) ∧ ((AV.d (.int .i64 (↑l.length : Int)) = AV.d (.int .i64 (↑l.length : Int))) ∧ ((AV.d (.int .i64 (IntKind.i64.wrap ((↑j : Int) + (1 : Int)))) = AV.d (.int .i64 (↑(j + 1) : Int))) ∧ ((Ob.box [AV.d (.int .i64 u)] = Ob.box [AV.d (.int .i64 u)]) ∧ ((Ob.box [AV.d (.int .i64 s.b), AV.d (.str s.d), AV.d (.int .i64 s.n), AV.d (.sl (List.map ckD s.fl)), AV.d (.sl (List.map ivD s.cm))] = Ob.box [AV.d (.int .i64 s.b), AV.d (.str s.d), AV.d (.int .i64 s.n), AV.d (.sl (List.map ckD s.fl)), AV.d (.sl (List.map ivD s.cm))]) ∧ (True)))))))))) (False)) (h := {els := [(12, .el (ivD x)), (11, .call [0, 1] (.d (.bool false)) [.box [.d (.int .i64 u)], sqB s])]}) (subs := []) (ws := []) (ρ := []) (by kernel_rfl) ?_
  have hj := get_lt hn
  have hi := inc_i64 (j := j) (by omega)
  try simp only [hi]
  refine condP_t (by rw [decide_eq_true_eq]; omega) ?_
  repeat' (with_reducible first | exact True.intro | apply And.intro | (first | apply zA | apply zB | apply zC | apply zD | apply zE | apply zF | apply zG) <;> intro)
  all_goals first | exact hx | exact el_map hn rfl | rfl | omega | skip

set_option maxRecDepth 100000 in
set_option maxHeartbeats 1000000 in
theorem ivD_ieB (g : Nat) (u : Int) (s : Sq) (l : List Iv) (hl : l.length < 1073741824) (j : Nat) (x : Iv) (hn : l[j]? = some x) (hx : FnOK Try.prog g [.d (ivD x), .ptr 0 0, .ptr 1 0] [.box [.d (.int .i64 u)], sqB s] (.d (.bool true)) [.box [.d (.int .i64 u)], sqB s]) : Runs Try.prog 2 (loopN Try.prog 85 0) (St.as (ivD_IB g u s l j) 19) (.ret) (St.as (ivD_IOB g u s j) 19) := by
  refine round_wp (p := condP (decide ((↑j : Int) < (↑l.length : Int))) (((0 : Int) ≤ (↑j : Int)) ∧ (((List.map ivD l)[(↑j : Int).toNat]? = some (D.agg [D.int .i64 x.fst, D.int .i64 x.snd])) ∧ ((FnOK Try.prog g [AV.d (.agg [D.int .i64 x.fst, D.int .i64 x.snd]), AV.ptr 0 0, AV.ptr 1 0] [Ob.box [AV.d (.int .i64 u)], Ob.box [AV.d (.int .i64 s.b), AV.d (.str s.d), AV.d (.int .i64 s.n), AV.d (.sl (List.map ckD s.fl)), AV.d (.sl (List.map ivD s.cm))]] (AV.d (.bool true)) [Ob.box [AV.d (.int .i64 u)], Ob.box [AV.d (.int .i64 s.b), AV.d (.str s.d), AV.d (.int .i64 s.n), AV.d (.sl (List.map ckD s.fl)), AV.d (.sl (List.map ivD s.cm))]]) ∧ ((AV.d (.int .i64 (↑j : Int)) = AV.d (.int .i64 (↑j : Int))) ∧ ((Ob.box [AV.d (.int .i64 u)] = Ob.box [AV.d (.int .i64 u)]) ∧ ((Ob.box [AV.d (.int .i64 s.b), AV.d (.str s.d), AV.d (.int .i64 s.n), AV.d (.sl (List.map ckD s.fl)), AV.d (.sl (List.map ivD s.cm))] = Ob.box [AV.d (.int .i64 s.b), AV.d (.str s.d), AV.d (.int .i64 s.n), AV.d (.sl (List.map ckD s.fl)), AV.d (.sl (List.map ivD s.cm))]) ∧ (True))))))) (False)) (h := {els := [(12, .el (ivD x)), (11, .call [0, 1] (.d (.bool true)) [.box [.d (.int .i64 u)], sqB s])]}) (subs := []) (ws := []) (ρ := []) (by kernel_rfl) ?_
  have hj := get_lt hn
  have hi := inc_i64 (j := j) (by omega)
  try simp only [hi]
  refine condP_t (by rw [decide_eq_true_eq]; omega) ?_
  repeat' (with_reducible first | exact True.intro | apply And.intro | (first | apply zA | apply zB | apply zC | apply zD | apply zE | apply zF | apply zG) <;> intro)
  all_goals first | exact hx | exact el_map hn rfl | rfl | omega | skip

set_option maxRecDepth 100000 in
set_option maxHeartbeats 1000000 in
theorem ivD_iqB (g : Nat) (u : Int) (s : Sq) (l : List Iv) : Runs Try.prog 2 (loopN Try.prog 85 0) (St.as (ivD_IB g u s l l.length) 19) (.exit 0) (St.as (ivD_IB g u s l l.length) 19) := by
  refine round_wp (p := condP (decide ((↑l.length : Int) < (↑l.length : Int))) (False) ((AV.d (.sl (List.map ivD l)) = AV.d (.sl (List.map ivD l))) ∧ ((AV.fn g [AV.ptr 0 0, AV.ptr 1 0] = AV.fn g [AV.ptr 0 0, AV.ptr 1 0]) ∧ ((AV.d (.int .i64 (↑l.length : Int)) = AV.d (.int .i64 (↑l.length : Int))) ∧ ((AV.d (.int .i64 (↑l.length : Int)) = AV.d (.int .i64 (↑l.length : Int))) ∧ ((Ob.box [AV.d (.int .i64 u)] = Ob.box [AV.d (.int .i64 u)]) ∧ ((Ob.box [AV.d (.int .i64 s.b), AV.d (.str s.d), AV.d (.int .i64 s.n), AV.d (.sl (List.map ckD s.fl)), AV.d (.sl (List.map ivD s.cm))] = Ob.box [AV.d (.int .i64 s.b), AV.d (.str s.d), AV.d (.int .i64 s.n), AV.d (.sl (List.map ckD s.fl)), AV.d (.sl (List.map ivD s.cm))]) ∧ (True)))))))) (h := {}) (subs := []) (ws := []) (ρ := []) (by kernel_rfl) ?_
  repeat' (with_reducible first | exact True.intro | apply And.intro | (first | apply zA | apply zB | apply zC | apply zD | apply zE | apply zF | apply zG) <;> intro)
  all_goals (try simp only [List.length_map, AV.d.injEq, D.int.injEq, D.bool.injEq, D.str.injEq, D.sl.injEq, true_and, and_true, decide_eq_true_eq, decide_eq_false_iff_not, decide_eq_decide])
  all_goals (try simp only [List.length_map] at *)
  all_goals first | rfl | omega

set_option maxRecDepth 100000 in
set_option maxHeartbeats 1000000 in
theorem ivD_inB (g : Nat) (u : Int) (s : Sq) (l : List Iv) (hL : Loops Try.prog 2 (loopN Try.prog 85 0) ((ivD_IB g u s l 0).as 19) (.exit 0) ((ivD_IB g u s l l.length).as 19)) : FnOK Try.prog 85 ([.d (.sl (l.map ivD)), .fn g [.ptr 0 0, .ptr 1 0]]) ([.box [.d (.int .i64 u)], sqB s]) (.d (.int .i64 (-1))) ([.box [.d (.int .i64 u)], sqB s]) := by
  refine fnOK_wp (p := (AV.d (.sl (List.map ivD l)) = AV.d (.sl (List.map ivD l))) ∧ ((AV.fn g [AV.ptr 0 0, AV.ptr 1 0] = AV.fn g [AV.ptr 0 0, AV.ptr 1 0]) ∧ ((AV.d (.int .i64 (↑(List.map ivD l).length : Int)) = AV.d (.int .i64 (↑l.length : Int))) ∧ ((AV.d (.int .i64 (0 : Int)) = AV.d (.int .i64 (0 : Int))) ∧ ((Ob.box [AV.d (.int .i64 u)] = Ob.box [AV.d (.int .i64 u)]) ∧ ((Ob.box [AV.d (.int .i64 s.b), AV.d (.str s.d), AV.d (.int .i64 s.n), AV.d (.sl (List.map ckD s.fl)), AV.d (.sl (List.map ivD s.cm))] = Ob.box [AV.d (.int .i64 s.b), AV.d (.str s.d), AV.d (.int .i64 s.n), AV.d (.sl (List.map ckD s.fl)), AV.d (.sl (List.map ivD s.cm))]) ∧ ((LoopsS Try.prog 2 (loopN Try.prog 85 0) (ivD_IB g u s l 0) (Exit.exit 0) (ivD_IB g u s l l.length) 19) ∧ ((AV.d (.int .i64 (-1 : Int)) = AV.d (.int .i64 (-1 : Int))) ∧ ((Ob.box [AV.d (.int .i64 u)] = Ob.box [AV.d (.int .i64 u)]) ∧ ((Ob.box [AV.d (.int .i64 s.b), AV.d (.str s.d), AV.d (.int .i64 s.n), AV.d (.sl (List.map ckD s.fl)), AV.d (.sl (List.map ivD s.cm))] = Ob.box [AV.d (.int .i64 s.b), AV.d (.str s.d), AV.d (.int .i64 s.n), AV.d (.sl (List.map ckD s.fl)), AV.d (.sl (List.map ivD s.cm))]) ∧ (True))))))))))) (h := {}) (subs := [⟨[], [], ivD_IB g u s l 0, .exit 0, ivD_IB g u s l l.length⟩]) (ws := []) (ρ := []) (by kernel_rfl) ?_
  simp only [List.length_map]
  repeat' (with_reducible first | exact True.intro | apply And.intro | (first | apply zA | apply zB | apply zC | apply zD | apply zE | apply zF | apply zG) <;> intro)
  all_goals first | exact hL | rfl | skip

set_option maxRecDepth 100000 in
set_option maxHeartbeats 1000000 in
theorem ivD_iyB (g : Nat) (u : Int) (s : Sq) (l : List Iv) (m : Nat) (hL : Loops Try.prog 2 (loopN Try.prog 85 0) ((ivD_IB g u s l 0).as 19) .ret ((ivD_IOB g u s m).as 19)) : FnOK Try.prog 85 ([.d (.sl (l.map ivD)), .fn g [.ptr 0 0, .ptr 1 0]]) ([.box [.d (.int .i64 u)], sqB s]) (.d (.int .i64 m)) ([.box [.d (.int .i64 u)], sqB s]) := by
  refine fnOK_wp (p := (AV.d (.sl (List.map ivD l)) = AV.d (.sl (List.map ivD l))) ∧ ((AV.fn g [AV.ptr 0 0, AV.ptr 1 0] = AV.fn g [AV.ptr 0 0, AV.ptr 1 0]) ∧ ((AV.d (.int .i64 (↑(List.map ivD l).length : Int)) = AV.d (.int .i64 (↑l.length : Int))) ∧ ((AV.d (.int .i64 (0 : Int)) = AV.d (.int .i64 (0 : Int))) ∧ ((Ob.box [AV.d (.int .i64 u)] = Ob.box [AV.d (.int .i64 u)]) ∧ ((Ob.box [AV.d (.int .i64 s.b), AV.d (.str s.d), AV.d (.int .i64 s.n), AV.d (.sl (List.map ckD s.fl)), AV.d (.sl (List.map ivD s.cm))] = Ob.box [AV.d (.int .i64 s.b), AV.d (.str s.d), AV.d (.int .i64 s.n), AV.d (.sl (List.map ckD s.fl)), AV.d (.sl (List.map ivD s.cm))]) ∧ ((LoopsS Try.prog 2 (loopN Try.prog 85 0) (ivD_IB g u s l 0) Exit.ret (ivD_IOB g u s (↑m : Int)) 19) ∧ ((AV.d (.int .i64 (↑m : Int)) = AV.d (.int .i64 (↑m : Int))) ∧ ((Ob.box [AV.d (.int .i64 u)] = Ob.box [AV.d (.int .i64 u)]) ∧ ((Ob.box [AV.d (.int .i64 s.b), AV.d (.str s.d), AV.d (.int .i64 s.n), AV.d (.sl (List.map ckD s.fl)), AV.d (.sl (List.map ivD s.cm))] = Ob.box [AV.d (.int .i64 s.b), AV.d (.str s.d), AV.d (.int .i64 s.n), AV.d (.sl (List.map ckD s.fl)), AV.d (.sl (List.map ivD s.cm))]) ∧ (True))))))))))) (h := {}) (subs := [⟨[], [], ivD_IB g u s l 0, .ret, ivD_IOB g u s m⟩]) (ws := []) (ρ := []) (by kernel_rfl) ?_
  simp only [List.length_map]
  repeat' (with_reducible first | exact True.intro | apply And.intro | (first | apply zA | apply zB | apply zC | apply zD | apply zE | apply zF | apply zG) <;> intro)
  all_goals first | exact hL | rfl | skip

theorem ivD_firstB (g : Nat) (u : Int) (s : Sq) (F : Iv → Bool) (l : List Iv) (hl : l.length < 1073741824) (hF : ∀ x ∈ l, FnOK Try.prog g [.d (ivD x), .ptr 0 0, .ptr 1 0] [.box [.d (.int .i64 u)], sqB s] (.d (.bool (F x))) [.box [.d (.int .i64 u)], sqB s]) :
    ((∀ x ∈ l, F x = false) ∧ FnOK Try.prog 85 [.d (.sl (l.map ivD)), .fn g [.ptr 0 0, .ptr 1 0]] [.box [.d (.int .i64 u)], sqB s] (.d (.int .i64 (-1))) [.box [.d (.int .i64 u)], sqB s]) ∨ ∃ (m : Nat) (x : Iv), l[m]? = some x ∧ F x = true ∧ (∀ (j : Nat) (y : Iv), j < m → l[j]? = some y → F y = false) ∧ FnOK Try.prog 85 [.d (.sl (l.map ivD)), .fn g [.ptr 0 0, .ptr 1 0]] [.box [.d (.int .i64 u)], sqB s] (.d (.int .i64 m)) [.box [.d (.int .i64 u)], sqB s] := by
  rcases all_or (fun x => F x = false) l with h | ⟨m, x, h1, h2, h3⟩
  · exact .inl ⟨h, ivD_inB g u s l (loops_n (I := fun j => (ivD_IB g u s l j).as 19) (by simp) l.length 0 (by omega) (fun j _ hj => ivD_irB g u s l hl j l[j] (get_of hj) (by have := hF _ (List.getElem_mem hj); rw [h _ (List.getElem_mem hj)] at this; exact this)) (ivD_iqB g u s l))⟩
  · have hm := get_lt h1
    have h2 : F x = true := by cases hw : F x; exact absurd hw h2; rfl
    exact .inr ⟨m, x, h1, h2, h3, ivD_iyB g u s l m (loops_n (I := fun j => (ivD_IB g u s l j).as 19) (by simp) m 0 (by omega) (fun j _ hj => ivD_irB g u s l hl j (l[j]'(by omega)) (get_of _) (by have := hF (l[j]'(by omega)) (List.getElem_mem _); rw [h3 j _ hj (get_of _)] at this; exact this)) (ivD_ieB g u s l hl m x h1 (by have := hF _ (get_mem h1); rw [h2] at this; exact this)))⟩

set_option maxRecDepth 100000 in
set_option maxHeartbeats 1000000 in
theorem ivD_cfB (g : Nat) (u : Int) (s : Sq) (l : List Iv) (k : Int) (h : FnOK Try.prog 85 [.d (.sl (l.map ivD)), .fn g [.ptr 0 0, .ptr 1 0]] [.box [.d (.int .i64 u)], sqB s] (.d (.int .i64 k)) [.box [.d (.int .i64 u)], sqB s]) : FnOK Try.prog 71 ([.d (.sl (l.map ivD)), .fn g [.ptr 0 0, .ptr 1 0]]) ([.box [.d (.int .i64 u)], sqB s]) (.d (.bool (decide (k ≥ 0)))) ([.box [.d (.int .i64 u)], sqB s]) := by
  refine fnOK_wp (p := (FnOK Try.prog 85 [AV.d (.sl (List.map ivD l)), AV.fn g [AV.ptr 0 0, AV.ptr 1 0]] [Ob.box [AV.d (.int .i64 u)], Ob.box [AV.d (.int .i64 s.b), AV.d (.str s.d), AV.d (.int .i64 s.n), AV.d (.sl (List.map ckD s.fl)), AV.d (.sl (List.map ivD s.cm))]] (AV.d (.int .i64 k)) [Ob.box [AV.d (.int .i64 u)], Ob.box [AV.d (.int .i64 s.b), AV.d (.str s.d), AV.d (.int .i64 s.n), AV.d (.sl (List.map ckD s.fl)), AV.d (.sl (List.map ivD s.cm))]]) ∧ ((AV.d (.bool (decide (k ≥ (0 : Int)))) = AV.d (.bool (decide (k ≥ (0 : Int))))) ∧ ((Ob.box [AV.d (.int .i64 u)] = Ob.box [AV.d (.int .i64 u)]) ∧ ((Ob.box [AV.d (.int .i64 s.b), AV.d (.str s.d), AV.d (.int .i64 s.n), AV.d (.sl (List.map ckD s.fl)), AV.d (.sl (List.map ivD s.cm))] = Ob.box [AV.d (.int .i64 s.b), AV.d (.str s.d), AV.d (.int .i64 s.n), AV.d (.sl (List.map ckD s.fl)), AV.d (.sl (List.map ivD s.cm))]) ∧ (True))))) (h := {H := [(1, [(2, .call [0, 1] (.d (.int .i64 k)) [.box [.d (.int .i64 u)], sqB s])])]}) (subs := []) (ws := []) (ρ := []) (by kernel_rfl) ?_
  repeat' (with_reducible first | exact True.intro | apply And.intro | (first | apply zA | apply zB | apply zC | apply zD | apply zE | apply zF | apply zG) <;> intro)
  all_goals first | exact h | rfl | skip

theorem ivD_containsB (g : Nat) (u : Int) (s : Sq) (F : Iv → Bool) (l : List Iv) (hl : l.length < 1073741824) (hF : ∀ x ∈ l, FnOK Try.prog g [.d (ivD x), .ptr 0 0, .ptr 1 0] [.box [.d (.int .i64 u)], sqB s] (.d (.bool (F x))) [.box [.d (.int .i64 u)], sqB s]) : FnOK Try.prog 71 [.d (.sl (l.map ivD)), .fn g [.ptr 0 0, .ptr 1 0]] [.box [.d (.int .i64 u)], sqB s] (.d (.bool (l.any F))) [.box [.d (.int .i64 u)], sqB s] := by
  rcases ivD_firstB g u s F l hl hF with ⟨h1, h2⟩ | ⟨m, x, h1, h2, -, h3⟩
  · have e : l.any F = false := by rw [List.any_eq_false]; intro x hx; rw [h1 x hx]; simp
    rw [e]
    exact ivD_cfB g u s l _ h2
  · have e : l.any F = true := List.any_eq_true.2 ⟨x, get_mem h1, h2⟩
    rw [e]
    have := ivD_cfB g u s l _ h3
    rw [decide_eq_true (p := (m : Int) ≥ 0) (by omega)] at this
    exact this


/-! ### May -/
def outB (s : Sq) (u : Int) (x : Iv) : Bool := decide (x.1 < u) || decide (x.2 > s.n)
set_option maxRecDepth 100000 in
set_option maxHeartbeats 1000000 in
theorem may72 (s : Sq) (u : Int) (x : Iv) : FnOK Try.prog 72 ([.d (ivD x), .ptr 0 0, .ptr 1 0]) ([.box [.d (.int .i64 u)], sqB s]) (.d (.bool (outB s u x))) ([.box [.d (.int .i64 u)], sqB s]) := by
  refine fnOK_wp (p := condP (decide (x.fst < u)) ((D.bool (decide (x.fst < u)) = D.bool true) ∧ ((AV.d (.bool true) = AV.d (.bool (outB s u x))) ∧ ((Ob.box [AV.d (.int .i64 u)] = Ob.box [AV.d (.int .i64 u)]) ∧ ((Ob.box [AV.d (.int .i64 s.b), AV.d (.str s.d), AV.d (.int .i64 s.n), AV.d (.sl (List.map ckD s.fl)), AV.d (.sl (List.map ivD s.cm))] = Ob.box [AV.d (.int .i64 s.b), AV.d (.str s.d), AV.d (.int .i64 s.n), AV.d (.sl (List.map ckD s.fl)), AV.d (.sl (List.map ivD s.cm))]) ∧ (True))))) ((D.bool (decide (x.fst < u)) = D.bool false) ∧ ((AV.d (.bool (decide (x.snd > s.n))) = AV.d (.bool (outB s u x))) ∧ ((Ob.box [AV.d (.int .i64 u)] = Ob.box [AV.d (.int .i64 u)]) ∧ ((Ob.box [AV.d (.int .i64 s.b), AV.d (.str s.d), AV.d (.int .i64 s.n), AV.d (.sl (List.map ckD s.fl)), AV.d (.sl (List.map ivD s.cm))] = Ob.box [AV.d (.int .i64 s.b), AV.d (.str s.d), AV.d (.int .i64 s.n), AV.d (.sl (List.map ckD s.fl)), AV.d (.sl (List.map ivD s.cm))]) ∧ (True)))))) (h := {}) (subs := []) (ws := []) (ρ := []) (by kernel_rfl) ?_
  unfold outB
  repeat' (with_reducible first | exact True.intro | apply And.intro | (first | apply zA | apply zB | apply zC | apply zD | apply zE | apply zF | apply zG) <;> intro)
  all_goals first | rfl | exact dyes ‹_› | exact dno ‹_› | (rw [decide_eq_false (p := x.1 < u) (by assumption)]; rfl) | (rw [decide_eq_true (p := x.1 < u) (by assumption)]; rfl) | (refine congrArg (fun z => AV.d (.bool z)) ?_; simp_all; done) | (refine congrArg D.bool ?_; simp_all; done) | skip

def mayQ (s : Sq) (u : Int) (l : List Iv) : Bool := decide (sChk s = 0 ∧ s.b ≤ u ∧ u ≤ s.n ∧ iChk l = 0) && !l.any (outB s u)
set_option maxRecDepth 100000 in
set_option maxHeartbeats 1000000 in
theorem may45n (s : Sq) (u : Int) (l : List Iv) (e f : Int) (k1 : FnOK Try.prog 28 [.d (sqD s)] [] (.d (.int .i64 e)) []) (k2 : FnOK Try.prog 67 [.d (.sl (l.map ivD))] [] (.d (.int .i64 f)) []) (h : ¬(e = 0 ∧ s.b ≤ u ∧ u ≤ s.n ∧ f = 0)) : FnOK Try.prog 45 ([.d (sqD s), .d (.int .i64 u), .d (.sl (l.map ivD))]) ([]) (.d (.bool false)) ([]) := by
  refine fnOK_wp (p := condP (e != (0 : Int)) ((FnOK Try.prog 28 [AV.d (.agg [D.int .i64 s.b, D.str s.d, D.int .i64 s.n, D.sl (List.map ckD s.fl), D.sl (List.map ivD s.cm)])] [] (AV.d (.int .i64 e)) []) ∧ ((D.bool (e != (0 : Int)) = D.bool true) ∧ ((D.bool true = D.bool true) ∧ ((D.bool true = D.bool true) ∧ ((D.bool true = D.bool true) ∧ ((AV.d (.bool false) = AV.d (.bool false)) ∧ (True))))))) (condP (decide (u < s.b)) ((FnOK Try.prog 28 [AV.d (.agg [D.int .i64 s.b, D.str s.d, D.int .i64 s.n, D.sl (List.map ckD s.fl), D.sl (List.map ivD s.cm)])] [] (AV.d (.int .i64 e)) []) ∧ ((D.bool (e != (0 : Int)) = D.bool false) ∧ ((D.bool (decide (u < s.b)) = D.bool true) ∧ ((D.bool true = D.bool true) ∧ ((D.bool true = D.bool true) ∧ ((AV.d (.bool false) = AV.d (.bool false)) ∧ (True))))))) (condP (decide (u > s.n)) ((FnOK Try.prog 28 [AV.d (.agg [D.int .i64 s.b, D.str s.d, D.int .i64 s.n, D.sl (List.map ckD s.fl), D.sl (List.map ivD s.cm)])] [] (AV.d (.int .i64 e)) []) ∧ ((D.bool (e != (0 : Int)) = D.bool false) ∧ ((D.bool (decide (u < s.b)) = D.bool false) ∧ ((D.bool (decide (u > s.n)) = D.bool true) ∧ ((D.bool true = D.bool true) ∧ ((AV.d (.bool false) = AV.d (.bool false)) ∧ (True))))))) ((FnOK Try.prog 28 [AV.d (.agg [D.int .i64 s.b, D.str s.d, D.int .i64 s.n, D.sl (List.map ckD s.fl), D.sl (List.map ivD s.cm)])] [] (AV.d (.int .i64 e)) []) ∧ ((D.bool (e != (0 : Int)) = D.bool false) ∧ ((D.bool (decide (u < s.b)) = D.bool false) ∧ ((D.bool (decide (u > s.n)) = D.bool false) ∧ ((FnOK Try.prog 67 [AV.d (.sl (List.map ivD l))] [] (AV.d (.int .i64 f)) []) ∧ ((D.bool (f != (0 : Int)) = D.bool true) ∧ ((AV.d (.bool false) = AV.d (.bool false)) ∧ (True))))))))))) (h := {H := [(1, [(1, .call [] (.d (.int .i64 e)) []), (17, .call [] (.d (.int .i64 f)) []), (19, .val (.bool true))])]}) (subs := []) (ws := []) (ρ := []) (by kernel_rfl) ?_
  repeat' (with_reducible first | exact True.intro | apply And.intro | (first | apply zA | apply zB | apply zC | apply zD | apply zE | apply zF | apply zG) <;> intro)
  all_goals first | exact k1 | exact k2 | rfl | exact dyes (by omega) | (refine congrArg D.bool ?_; rw [bne_iff_ne]; omega) | (exfalso; omega) | (refine congrArg D.bool ?_; simp_all; done) | (exfalso; simp_all; omega) | skip

set_option maxRecDepth 100000 in
set_option maxHeartbeats 1000000 in
theorem may45y (s : Sq) (u : Int) (l : List Iv) (e f : Int) (k1 : FnOK Try.prog 28 [.d (sqD s)] [] (.d (.int .i64 e)) []) (k2 : FnOK Try.prog 67 [.d (.sl (l.map ivD))] [] (.d (.int .i64 f)) []) (h : e = 0 ∧ s.b ≤ u ∧ u ≤ s.n ∧ f = 0) (q : Bool) (k3 : FnOK Try.prog 71 [.d (.sl (l.map ivD)), .fn 72 [.ptr 0 0, .ptr 1 0]] [.box [.d (.int .i64 u)], sqB s] (.d (.bool q)) [.box [.d (.int .i64 u)], sqB s]) : FnOK Try.prog 45 ([.d (sqD s), .d (.int .i64 u), .d (.sl (l.map ivD))]) ([]) (.d (.bool (!q))) ([]) := by
  refine fnOK_wp (p := (FnOK Try.prog 28 [AV.d (.agg [D.int .i64 s.b, D.str s.d, D.int .i64 s.n, D.sl (List.map ckD s.fl), D.sl (List.map ivD s.cm)])] [] (AV.d (.int .i64 e)) []) ∧ ((D.bool (e != (0 : Int)) = D.bool false) ∧ ((D.bool (decide (u < s.b)) = D.bool false) ∧ ((D.bool (decide (u > s.n)) = D.bool false) ∧ ((FnOK Try.prog 67 [AV.d (.sl (List.map ivD l))] [] (AV.d (.int .i64 f)) []) ∧ ((D.bool (f != (0 : Int)) = D.bool false) ∧ ((FnOK Try.prog 71 [AV.d (.sl (List.map ivD l)), AV.fn 72 [AV.ptr 0 0, AV.ptr 1 0]] [Ob.box [AV.d (.int .i64 u)], Ob.box [AV.d (.int .i64 s.b), AV.d (.str s.d), AV.d (.int .i64 s.n), AV.d (.sl (List.map ckD s.fl)), AV.d (.sl (List.map ivD s.cm))]] (AV.d (.bool q)) [Ob.box [AV.d (.int .i64 u)], Ob.box [AV.d (.int .i64 s.b), AV.d (.str s.d), AV.d (.int .i64 s.n), AV.d (.sl (List.map ckD s.fl)), AV.d (.sl (List.map ivD s.cm))]]) ∧ ((AV.d (.bool !q) = AV.d (.bool !q)) ∧ (True))))))))) (h := {H := [(1, [(1, .call [] (.d (.int .i64 e)) []), (3, .val (.bool false)), (9, .val (.bool false)), (15, .val (.bool false)), (17, .call [] (.d (.int .i64 f)) []), (19, .val (.bool false))]), (3, [(2, .call [1032, 1024] (.d (.bool q)) [.box [.d (.int .i64 u)], sqB s])])]}) (subs := []) (ws := []) (ρ := []) (by kernel_rfl) ?_
  repeat' (with_reducible first | exact True.intro | apply And.intro | (first | apply zA | apply zB | apply zC | apply zD | apply zE | apply zF | apply zG) <;> intro)
  all_goals first | exact k1 | exact k2 | exact k3 | rfl | exact dno (by omega) | (refine congrArg D.bool ?_; simp [h.1]; done) | (refine congrArg D.bool ?_; simp [h.2.2.2]; done) | skip

theorem may45 (s : Sq) (h : SqOk s) (u : Int) (l : List Iv) (hl : l.length < 100000) : FnOK Try.prog 45 [.d (sqD s), .d (.int .i64 u), .d (.sl (l.map ivD))] [] (.d (.bool (mayQ s u l))) [] := by
  have k1 := chk28 s (by have := h.fl; omega) (by have := h.cm; omega)
  have k2 := chk19 l (by omega)
  unfold mayQ
  by_cases g : sChk s = 0 ∧ s.b ≤ u ∧ u ≤ s.n ∧ iChk l = 0
  · rw [decide_eq_true g, Bool.true_and]
    exact may45y s u l _ _ k1 k2 g _ (ivD_containsB _ u s (outB s u) l (by omega) fun x _ => may72 s u x)
  · rw [decide_eq_false g, Bool.false_and]
    exact may45n s u l _ _ k1 k2 g
/-! ### What is left of a chunk -/
def part (c : Ck) (x : Iv) : Ck := { c with f := x.1, t := x.2 }
def lft (c : Ck) (all : List Iv) : List Ck := (rGaps all (ckI c)).map (part c)
def szS (n : Int) (x : Ck) : Int := IntKind.i64.wrap (n + cSz x)
def someB (c : Ck) (all : List Iv) : Bool := decide ((lft c all).foldl szS 0 < cSz c)
def ckB (c : Ck) : Ob := .box [.d (.int .i64 c.f), .d (.int .i64 c.t), .d (.int .i64 c.s), .d (.int .i64 c.r), .d (.bool c.l)]
def I47 (c : Ck) (g : List Iv) (m : List Ck) (n : Int) (j : Nat) : St := ⟨[(2, .ptr 0 0), (6, .own 1 5), (7, .d (.int .i64 n)), (14, .d (.sl (g.map ivD))), (15, .d (.int .i64 g.length)), (16, .d (.int .i64 j))], [(0, ckB c), (1, .row 5 (m.map ckD))]⟩
set_option maxRecDepth 100000 in
set_option maxHeartbeats 1000000 in
theorem r47 (c : Ck) (g : List Iv) (hl : g.length < 1000000) (m : List Ck) (hm : m.length < 1000000) (n : Int) (j : Nat) (x : Iv) (hn : g[j]? = some x) (k1 : FnOK Try.prog 37 [.d (ckD (part c x))] [] (.d (.int .i64 (cSz (part c x)))) []) : Runs Try.prog 0 (loopN Try.prog 47 0) (St.as (I47 c g m n j) 41) (.normal) (St.as (I47 c g (m ++ [part c x]) (szS n (part c x)) (j+1)) 41) := by
  refine round_wp (p := condP (decide ((↑j : Int) < (↑g.length : Int))) (((0 : Int) ≤ (↑j : Int)) ∧ (((List.map ivD g)[(↑j : Int).toNat]? = some (D.agg [D.int .i64 x.fst, D.int .i64 x.snd])) ∧ ((((List.map ckD m).length + [D.agg (List.take 5 [D.int .i64 x.fst, D.int .i64 x.snd, D.int .i64 c.s, D.int .i64 c.r, D.bool c.l])].length) * 40 ≤ 140737488355328) ∧ ((∀ (e : D), e ∈ chunk 5 1 [D.int .i64 x.fst, D.int .i64 x.snd, D.int .i64 c.s, D.int .i64 c.r, D.bool c.l] → e.cells.length = 5) ∧ ((FnOK Try.prog 37 [AV.d (.agg [D.int .i64 x.fst, D.int .i64 x.snd, D.int .i64 c.s, D.int .i64 c.r, D.bool c.l])] [] (AV.d (.int .i64 (cSz (part c x)))) []) ∧ ((AV.ptr 0 0 = AV.ptr 0 0) ∧ ((AV.own 1240 5 = AV.own 1240 5) ∧ ((AV.d (.int .i64 (IntKind.i64.wrap (n + cSz (part c x)))) = AV.d (.int .i64 (szS n (part c x)))) ∧ ((AV.d (.sl (List.map ivD g)) = AV.d (.sl (List.map ivD g))) ∧ ((AV.d (.int .i64 (↑g.length : Int)) = AV.d (.int .i64 (↑g.length : Int))) ∧ ((AV.d (.int .i64 (IntKind.i64.wrap ((↑j : Int) + (1 : Int)))) = AV.d (.int .i64 (↑(j + 1) : Int))) ∧ ((Ob.box [AV.d (.int .i64 c.f), AV.d (.int .i64 c.t), AV.d (.int .i64 c.s), AV.d (.int .i64 c.r), AV.d (.bool c.l)] = Ob.box [AV.d (.int .i64 c.f), AV.d (.int .i64 c.t), AV.d (.int .i64 c.s), AV.d (.int .i64 c.r), AV.d (.bool c.l)]) ∧ ((Ob.row 5 (List.map ckD m ++ [D.agg (List.take 5 [D.int .i64 x.fst, D.int .i64 x.snd, D.int .i64 c.s, D.int .i64 c.r, D.bool c.l])]) = Ob.row 5 (List.map ckD (m ++ [part c x]))) ∧ (True)))))))))))))) (False)) (h := {els := [(14, .el (ivD x))], H := [(9, [(2, .call [] (.d (.int .i64 (cSz (part c x)))) [])])]}) (subs := []) (ws := []) (ρ := []) (by kernel_rfl) ?_
  have hj := get_lt hn
  have hi := inc_i64 (j := j) (by omega)
  have hcm : (m ++ [part c x]).map ckD = m.map ckD ++ [ckD (part c x)] := by simp
  try simp only [hi]
  refine condP_t (by rw [decide_eq_true_eq]; omega) ?_
  repeat' (with_reducible first | exact True.intro | apply And.intro | (first | apply zA | apply zB | apply zC | apply zD | apply zE | apply zF | apply zG) <;> intro)
  all_goals first | exact k1 | exact el_map hn rfl | rfl | omega | exact congrArg (Ob.row 5) hcm.symm | (simp; omega) | (simp [chunk, ckD, D.cells]; done) | skip

set_option maxRecDepth 100000 in
set_option maxHeartbeats 1000000 in
theorem q47 (c : Ck) (g : List Iv) (m : List Ck) (n : Int) : Runs Try.prog 0 (loopN Try.prog 47 0) (St.as (I47 c g m n g.length) 41) (.exit 0) (St.as (I47 c g m n g.length) 41) := by
  refine round_wp (p := condP (decide ((↑g.length : Int) < (↑g.length : Int))) (False) ((AV.ptr 0 0 = AV.ptr 0 0) ∧ ((AV.own 1 5 = AV.own 1 5) ∧ ((AV.d (.int .i64 n) = AV.d (.int .i64 n)) ∧ ((AV.d (.sl (List.map ivD g)) = AV.d (.sl (List.map ivD g))) ∧ ((AV.d (.int .i64 (↑g.length : Int)) = AV.d (.int .i64 (↑g.length : Int))) ∧ ((AV.d (.int .i64 (↑g.length : Int)) = AV.d (.int .i64 (↑g.length : Int))) ∧ ((Ob.box [AV.d (.int .i64 c.f), AV.d (.int .i64 c.t), AV.d (.int .i64 c.s), AV.d (.int .i64 c.r), AV.d (.bool c.l)] = Ob.box [AV.d (.int .i64 c.f), AV.d (.int .i64 c.t), AV.d (.int .i64 c.s), AV.d (.int .i64 c.r), AV.d (.bool c.l)]) ∧ ((Ob.row 5 (List.map ckD m) = Ob.row 5 (List.map ckD m)) ∧ (True)))))))))) (h := {}) (subs := []) (ws := []) (ρ := []) (by kernel_rfl) ?_
  repeat' (with_reducible first | exact True.intro | apply And.intro | (first | apply zA | apply zB | apply zC | apply zD | apply zE | apply zF | apply zG) <;> intro)
  all_goals first | rfl | omega

set_option maxRecDepth 100000 in
set_option maxHeartbeats 1000000 in
theorem wo47 (c : Ck) (l g : List Iv) (m : List Ck) (n : Int) (k1 : FnOK Try.prog 74 [.d (ckD c)] [] (.d (ivD (ckI c))) []) (k2 : FnOK Try.prog 73 [.d (.sl (l.map ivD)), .d (ivD (ckI c))] [] (.d (.sl (g.map ivD))) []) (k3 : FnOK Try.prog 37 [.d (ckD c)] [] (.d (.int .i64 (cSz c))) []) (hL : Loops Try.prog 0 (loopN Try.prog 47 0) ((I47 c g [] 0 0).as 41) (.exit 0) ((I47 c g m n g.length).as 41)) : FnOK Try.prog 47 ([.d (ckD c), .d (.sl (l.map ivD))]) ([]) (.tup [.d (.sl (m.map ckD)), .d (.bool (decide (n < cSz c)))]) ([]) := by
  refine fnOK_wp (p := (FnOK Try.prog 74 [AV.d (.agg [D.int .i64 c.f, D.int .i64 c.t, D.int .i64 c.s, D.int .i64 c.r, D.bool c.l])] [] (AV.d (.agg [D.int .i64 (ckI c).fst, D.int .i64 (ckI c).snd])) []) ∧ ((FnOK Try.prog 73 [AV.d (.sl (List.map ivD l)), AV.d (.agg [D.int .i64 (ckI c).fst, D.int .i64 (ckI c).snd])] [] (AV.d (.sl (List.map ivD g))) []) ∧ ((AV.ptr 1016 0 = AV.ptr 1016 0) ∧ ((AV.own 901 5 = AV.own 901 5) ∧ ((AV.d (.int .i64 (0 : Int)) = AV.d (.int .i64 (0 : Int))) ∧ ((AV.d (.sl (List.map ivD g)) = AV.d (.sl (List.map ivD g))) ∧ ((AV.d (.int .i64 (↑(List.map ivD g).length : Int)) = AV.d (.int .i64 (↑g.length : Int))) ∧ ((AV.d (.int .i64 (0 : Int)) = AV.d (.int .i64 (0 : Int))) ∧ ((Ob.box [AV.d (.int .i64 c.f), AV.d (.int .i64 c.t), AV.d (.int .i64 c.s), AV.d (.int .i64 c.r), AV.d (.bool c.l)] = Ob.box [AV.d (.int .i64 c.f), AV.d (.int .i64 c.t), AV.d (.int .i64 c.s), AV.d (.int .i64 c.r), AV.d (.bool c.l)]) ∧ ((Ob.row 5 [] = Ob.row 5 []) ∧ ((LoopsS Try.prog 0 (loopN Try.prog 47 0) (I47 c g [] (0 : Int) 0) (Exit.exit 0) (I47 c g m n g.length) 41) ∧ ((FnOK Try.prog 37 [AV.d (.agg [D.int .i64 c.f, D.int .i64 c.t, D.int .i64 c.s, D.int .i64 c.r, D.bool c.l])] [] (AV.d (.int .i64 (cSz c))) []) ∧ ((AV.tup [AV.d (.sl (List.map ckD m)), AV.d (.bool (decide (n < cSz c)))] = AV.tup [AV.d (.sl (List.map ckD m)), AV.d (.bool (decide (n < cSz c)))]) ∧ (True)))))))))))))) (h := {H := [(3, [(2, .call [] (.d (ivD (ckI c))) []), (3, .call [] (.d (.sl (g.map ivD))) [])]), (11, [(3, .call [] (.d (.int .i64 (cSz c))) [])])]}) (subs := [⟨[], [], I47 c g [] 0 0, .exit 0, I47 c g m n g.length⟩]) (ws := []) (ρ := []) (by kernel_rfl) ?_
  simp only [List.length_map]
  repeat' (with_reducible first | exact True.intro | apply And.intro | (first | apply zA | apply zB | apply zC | apply zD | apply zE | apply zF | apply zG) <;> intro)
  all_goals first | exact k1 | exact k2 | exact k3 | exact hL | rfl | skip

theorem without47 (c : Ck) (l : List Iv) (hl : l.length < 100000) : FnOK Try.prog 47 [.d (ckD c), .d (.sl (l.map ivD))] [] (.tup [.d (.sl ((lft c l).map ckD)), .d (.bool (someB c l))]) [] := by
  have k2 := gaps15 l (by omega) (ckI c)
  have hg := rGaps_len l (ckI c)
  unfold someB lft
  generalize rGaps l (ckI c) = g at *
  have hL := loops_n (P := Try.prog) (k := 0) (c := loopN Try.prog 47 0) (e := .exit 0) (I := fun j => (I47 c g ((g.take j).map (part c)) (((g.take j).map (part c)).foldl szS 0) j).as 41) (by simp) g.length 0 (by omega) (fun j _ hj => by
    have hn := get_of hj
    show Runs _ _ _ _ _ ((I47 c g ((g.take (j + 1)).map (part c)) (((g.take (j + 1)).map (part c)).foldl szS 0) (j + 1)).as _)
    rw [take_snoc hn, List.map_append, List.foldl_append]
    exact r47 c g (by omega) _ (by rw [List.length_map, List.length_take]; omega) _ j _ hn (size37 _ trivial trivial)) (by simp only [List.take_length]; exact q47 c g _ _)
  exact wo47 c l g _ _ (ival74 c trivial trivial) k2 (size37 c trivial trivial) hL
/-! ### What is lost -/
def farB (e : Int) (c : Ck) : Bool := !c.l && decide (IntKind.i64.wrap (e - c.t) ≥ 96)
def loseC (e : Int) (c : Ck) : Ck := if farB e c = true then { c with l := true } else c
def rLose (s : Sq) : Sq × Bool := match s.cm.getLast? with | none => (s, false) | some z => ({ s with fl := s.fl.map (loseC z.2) }, s.fl.any (farB z.2))
theorem mapTo_skip (f : Ck → Ck) {l : List Ck} {j : Nat} {c : Ck} (h : l[j]? = some c) (hf : f c = c) : mapTo f l (j + 1) = mapTo f l j := by
  rw [← mapTo_set f h, hf]
  have := mapTo_get f h
  exact List.ext_getElem? fun i => by
    rw [List.getElem?_set]
    split
    · next e => subst e; split; exact this.symm; exact (by rename_i g; rw [List.getElem?_eq_none (by omega)])
    · rfl
def I50 (s : Sq) (e : Int) (q : Bool) (j : Nat) : St := ⟨[(1, .ptr 1 0), (3, .d (.int .i64 e)), (4, .d (.bool q)), (22, .d (.int .i64 s.fl.length)), (23, .d (.int .i64 j))], [(0, .row 5 ((mapTo (loseC e) s.fl j).map ckD)), (1, .box [.d (.int .i64 s.b), .d (.str s.d), .d (.int .i64 s.n), .own 0 5, .d (.sl (s.cm.map ivD))])]⟩
set_option maxRecDepth 100000 in
set_option maxHeartbeats 1000000 in
theorem r50a (s : Sq) (hl : s.fl.length < 1000000000) (e : Int) (q : Bool) (j : Nat) (c : Ck) (hn : s.fl[j]? = some c) (hm : (mapTo (loseC e) s.fl j)[j]? = some c) (h1 : c.l = true) (hs : (mapTo (loseC e) s.fl j).map ckD = (mapTo (loseC e) s.fl (j+1)).map ckD) : Runs Try.prog 1 (loopN Try.prog 50 0) (St.as (I50 s e q j) 49) (.normal) (St.as (I50 s e q (j+1)) 49) := by
  refine round_wp (p := condP (decide ((↑j : Int) < (↑s.fl.length : Int))) (((0 : Int) ≤ (↑j : Int) ∧ (↑j : Int) < (↑(List.map ckD (mapTo (loseC e) s.fl j)).length : Int)) ∧ ((List.map ckD (mapTo (loseC e) s.fl j) ≠ []) ∧ (((↑j : Int).toNat < (List.map ckD (mapTo (loseC e) s.fl j)).length) ∧ ((5 = 5) ∧ (((List.map ckD (mapTo (loseC e) s.fl j))[(↑j : Int).toNat]? = some (D.agg [D.int .i64 c.f, D.int .i64 c.t, D.int .i64 c.s, D.int .i64 c.r, D.bool c.l])) ∧ (((D.bool !c.l) = D.bool false) ∧ ((AV.ptr 1 0 = AV.ptr 1 0) ∧ ((AV.d (.int .i64 e) = AV.d (.int .i64 e)) ∧ ((AV.d (.bool q) = AV.d (.bool q)) ∧ ((AV.d (.int .i64 (↑s.fl.length : Int)) = AV.d (.int .i64 (↑s.fl.length : Int))) ∧ ((AV.d (.int .i64 (IntKind.i64.wrap ((↑j : Int) + (1 : Int)))) = AV.d (.int .i64 (↑(j + 1) : Int))) ∧ ((Ob.row 5 (List.map ckD (mapTo (loseC e) s.fl j)) = Ob.row 5 (List.map ckD (mapTo (loseC e) s.fl (j + 1)))) ∧ ((Ob.box [AV.d (.int .i64 s.b), AV.d (.str s.d), AV.d (.int .i64 s.n), AV.own 0 5, AV.d (.sl (List.map ivD s.cm))] = Ob.box [AV.d (.int .i64 s.b), AV.d (.str s.d), AV.d (.int .i64 s.n), AV.own 0 5, AV.d (.sl (List.map ivD s.cm))]) ∧ (True)))))))))))))) (False)) (h := {els := [(32, .el (ckD c))], H := [(9, [(5, .val (.bool false))])]}) (subs := []) (ws := []) (ρ := []) (by kernel_rfl) ?_
  have hj := get_lt hn
  have hi := inc_i64 (j := j) (by omega)
  have hln := mapTo_len (loseC e) s.fl j
  have hne : (mapTo (loseC e) s.fl j).map ckD ≠ [] := fun g => by
    have := congrArg List.length g
    rw [List.length_map, hln, List.length_nil] at this
    omega
  try simp only [hi]
  refine condP_t (by rw [decide_eq_true_eq]; omega) ?_
  try simp only [Int.toNat_natCast]
  repeat' (with_reducible first | exact True.intro | apply And.intro | (first | apply zA | apply zB | apply zC | apply zD | apply zE | apply zF | apply zG) <;> intro)
  all_goals first | exact hne | exact el_map hm rfl | exact hs | exact congrArg (Ob.row 5) hs | rfl | omega | (simp [hln]; omega) | (refine congrArg D.bool ?_; simp [h1]; done) | exact dyes (by omega) | exact dno (by omega) | skip

set_option maxRecDepth 100000 in
set_option maxHeartbeats 1000000 in
theorem r50b (s : Sq) (hl : s.fl.length < 1000000000) (e : Int) (q : Bool) (j : Nat) (c : Ck) (hn : s.fl[j]? = some c) (hm : (mapTo (loseC e) s.fl j)[j]? = some c) (h1 : c.l = false) (h2 : ¬IntKind.i64.wrap (e - c.t) ≥ 96) (hs : (mapTo (loseC e) s.fl j).map ckD = (mapTo (loseC e) s.fl (j+1)).map ckD) : Runs Try.prog 1 (loopN Try.prog 50 0) (St.as (I50 s e q j) 49) (.normal) (St.as (I50 s e q (j+1)) 49) := by
  refine round_wp (p := condP (decide ((↑j : Int) < (↑s.fl.length : Int))) (((0 : Int) ≤ (↑j : Int) ∧ (↑j : Int) < (↑(List.map ckD (mapTo (loseC e) s.fl j)).length : Int)) ∧ ((List.map ckD (mapTo (loseC e) s.fl j) ≠ []) ∧ (((↑j : Int).toNat < (List.map ckD (mapTo (loseC e) s.fl j)).length) ∧ ((5 = 5) ∧ (((List.map ckD (mapTo (loseC e) s.fl j))[(↑j : Int).toNat]? = some (D.agg [D.int .i64 c.f, D.int .i64 c.t, D.int .i64 c.s, D.int .i64 c.r, D.bool c.l])) ∧ (((D.bool !c.l) = D.bool true) ∧ ((List.map ckD (mapTo (loseC e) s.fl j) ≠ []) ∧ (((↑j : Int).toNat < (List.map ckD (mapTo (loseC e) s.fl j)).length) ∧ ((5 = 5) ∧ (((List.map ckD (mapTo (loseC e) s.fl j))[(↑j : Int).toNat]? = some (D.agg [D.int .i64 c.f, D.int .i64 c.t, D.int .i64 c.s, D.int .i64 c.r, D.bool c.l])) ∧ ((D.bool (decide (IntKind.i64.wrap (e - c.t) ≥ (96 : Int))) = D.bool false) ∧ ((AV.ptr 1 0 = AV.ptr 1 0) ∧ ((AV.d (.int .i64 e) = AV.d (.int .i64 e)) ∧ ((AV.d (.bool q) = AV.d (.bool q)) ∧ ((AV.d (.int .i64 (↑s.fl.length : Int)) = AV.d (.int .i64 (↑s.fl.length : Int))) ∧ ((AV.d (.int .i64 (IntKind.i64.wrap ((↑j : Int) + (1 : Int)))) = AV.d (.int .i64 (↑(j + 1) : Int))) ∧ ((Ob.row 5 (List.map ckD (mapTo (loseC e) s.fl j)) = Ob.row 5 (List.map ckD (mapTo (loseC e) s.fl (j + 1)))) ∧ ((Ob.box [AV.d (.int .i64 s.b), AV.d (.str s.d), AV.d (.int .i64 s.n), AV.own 0 5, AV.d (.sl (List.map ivD s.cm))] = Ob.box [AV.d (.int .i64 s.b), AV.d (.str s.d), AV.d (.int .i64 s.n), AV.own 0 5, AV.d (.sl (List.map ivD s.cm))]) ∧ (True))))))))))))))))))) (False)) (h := {els := [(32, .el (ckD c)), (39, .el (ckD c))], H := [(9, [(5, .val (.bool true)), (12, .val (.bool false))])]}) (subs := []) (ws := []) (ρ := []) (by kernel_rfl) ?_
  have hj := get_lt hn
  have hi := inc_i64 (j := j) (by omega)
  have hln := mapTo_len (loseC e) s.fl j
  have hne : (mapTo (loseC e) s.fl j).map ckD ≠ [] := fun g => by
    have := congrArg List.length g
    rw [List.length_map, hln, List.length_nil] at this
    omega
  try simp only [hi]
  refine condP_t (by rw [decide_eq_true_eq]; omega) ?_
  try simp only [Int.toNat_natCast]
  repeat' (with_reducible first | exact True.intro | apply And.intro | (first | apply zA | apply zB | apply zC | apply zD | apply zE | apply zF | apply zG) <;> intro)
  all_goals first | exact hne | exact el_map hm rfl | exact hs | exact congrArg (Ob.row 5) hs | rfl | omega | (simp [hln]; omega) | (refine congrArg D.bool ?_; simp [h1]; done) | exact dyes (by omega) | exact dno (by omega) | skip

set_option maxRecDepth 100000 in
set_option maxHeartbeats 1000000 in
theorem r50c (s : Sq) (hl : s.fl.length < 1000000000) (e : Int) (q : Bool) (j : Nat) (c : Ck) (hn : s.fl[j]? = some c) (hm : (mapTo (loseC e) s.fl j)[j]? = some c) (h1 : c.l = false) (h2 : IntKind.i64.wrap (e - c.t) ≥ 96) (hs : ((mapTo (loseC e) s.fl j).map ckD).set j (ckD { c with l := true }) = (mapTo (loseC e) s.fl (j+1)).map ckD) : Runs Try.prog 1 (loopN Try.prog 50 0) (St.as (I50 s e q j) 49) (.normal) (St.as (I50 s e true (j+1)) 49) := by
  refine round_wp (p := condP (decide ((↑j : Int) < (↑s.fl.length : Int))) (((0 : Int) ≤ (↑j : Int) ∧ (↑j : Int) < (↑(List.map ckD (mapTo (loseC e) s.fl j)).length : Int)) ∧ ((List.map ckD (mapTo (loseC e) s.fl j) ≠ []) ∧ (((↑j : Int).toNat < (List.map ckD (mapTo (loseC e) s.fl j)).length) ∧ ((5 = 5) ∧ (((List.map ckD (mapTo (loseC e) s.fl j))[(↑j : Int).toNat]? = some (D.agg [D.int .i64 c.f, D.int .i64 c.t, D.int .i64 c.s, D.int .i64 c.r, D.bool c.l])) ∧ (((D.bool !c.l) = D.bool true) ∧ ((List.map ckD (mapTo (loseC e) s.fl j) ≠ []) ∧ (((↑j : Int).toNat < (List.map ckD (mapTo (loseC e) s.fl j)).length) ∧ ((5 = 5) ∧ (((List.map ckD (mapTo (loseC e) s.fl j))[(↑j : Int).toNat]? = some (D.agg [D.int .i64 c.f, D.int .i64 c.t, D.int .i64 c.s, D.int .i64 c.r, D.bool c.l])) ∧ ((D.bool (decide (IntKind.i64.wrap (e - c.t) ≥ (96 : Int))) = D.bool true) ∧ ((List.map ckD (mapTo (loseC e) s.fl j) ≠ []) ∧ (((↑j : Int).toNat < (List.map ckD (mapTo (loseC e) s.fl j)).length) ∧ ((5 = 5) ∧ (((List.map ckD (mapTo (loseC e) s.fl j))[(↑j : Int).toNat]? = some (D.agg [D.int .i64 c.f, D.int .i64 c.t, D.int .i64 c.s, D.int .i64 c.r, D.bool c.l])) ∧ ((AV.ptr 1 0 = AV.ptr 1 0) ∧ ((AV.d (.int .i64 e) = AV.d (.int .i64 e)) ∧ ((AV.d (.bool true) = AV.d (.bool true)) ∧ ((AV.d (.int .i64 (↑s.fl.length : Int)) = AV.d (.int .i64 (↑s.fl.length : Int))) ∧ ((AV.d (.int .i64 (IntKind.i64.wrap ((↑j : Int) + (1 : Int)))) = AV.d (.int .i64 (↑(j + 1) : Int))) ∧ ((Ob.row 5 ((List.map ckD (mapTo (loseC e) s.fl j)).set (↑j : Int).toNat (D.agg (List.take 4 [D.int .i64 c.f, D.int .i64 c.t, D.int .i64 c.s, D.int .i64 c.r, D.bool c.l] ++ [D.bool true] ++ List.drop 5 [D.int .i64 c.f, D.int .i64 c.t, D.int .i64 c.s, D.int .i64 c.r, D.bool c.l]))) = Ob.row 5 (List.map ckD (mapTo (loseC e) s.fl (j + 1)))) ∧ ((Ob.box [AV.d (.int .i64 s.b), AV.d (.str s.d), AV.d (.int .i64 s.n), AV.own 0 5, AV.d (.sl (List.map ivD s.cm))] = Ob.box [AV.d (.int .i64 s.b), AV.d (.str s.d), AV.d (.int .i64 s.n), AV.own 0 5, AV.d (.sl (List.map ivD s.cm))]) ∧ (True))))))))))))))))))))))) (False)) (h := {els := [(32, .el (ckD c)), (39, .el (ckD c)), (46, .el (ckD c))], H := [(9, [(5, .val (.bool true)), (12, .val (.bool true))])]}) (subs := []) (ws := []) (ρ := []) (by kernel_rfl) ?_
  have hj := get_lt hn
  have hi := inc_i64 (j := j) (by omega)
  have hln := mapTo_len (loseC e) s.fl j
  have hne : (mapTo (loseC e) s.fl j).map ckD ≠ [] := fun g => by
    have := congrArg List.length g
    rw [List.length_map, hln, List.length_nil] at this
    omega
  try simp only [hi]
  refine condP_t (by rw [decide_eq_true_eq]; omega) ?_
  try simp only [Int.toNat_natCast]
  repeat' (with_reducible first | exact True.intro | apply And.intro | (first | apply zA | apply zB | apply zC | apply zD | apply zE | apply zF | apply zG) <;> intro)
  all_goals first | exact hne | exact el_map hm rfl | exact hs | exact congrArg (Ob.row 5) hs | rfl | omega | (simp [hln]; omega) | (refine congrArg D.bool ?_; simp [h1]; done) | exact dyes (by omega) | exact dno (by omega) | skip

set_option maxRecDepth 100000 in
set_option maxHeartbeats 1000000 in
theorem q50 (s : Sq) (e : Int) (q : Bool) : Runs Try.prog 1 (loopN Try.prog 50 0) (St.as (I50 s e q s.fl.length) 49) (.exit 0) (St.as (I50 s e q s.fl.length) 49) := by
  refine round_wp (p := condP (decide ((↑s.fl.length : Int) < (↑s.fl.length : Int))) (((0 : Int) ≤ (↑s.fl.length : Int) ∧ (↑s.fl.length : Int) < (↑(List.map ckD (mapTo (loseC e) s.fl s.fl.length)).length : Int)) ∧ (False)) ((AV.ptr 1 0 = AV.ptr 1 0) ∧ ((AV.d (.int .i64 e) = AV.d (.int .i64 e)) ∧ ((AV.d (.bool q) = AV.d (.bool q)) ∧ ((AV.d (.int .i64 (↑s.fl.length : Int)) = AV.d (.int .i64 (↑s.fl.length : Int))) ∧ ((AV.d (.int .i64 (↑s.fl.length : Int)) = AV.d (.int .i64 (↑s.fl.length : Int))) ∧ ((Ob.row 5 (List.map ckD (mapTo (loseC e) s.fl s.fl.length)) = Ob.row 5 (List.map ckD (mapTo (loseC e) s.fl s.fl.length))) ∧ ((Ob.box [AV.d (.int .i64 s.b), AV.d (.str s.d), AV.d (.int .i64 s.n), AV.own 0 5, AV.d (.sl (List.map ivD s.cm))] = Ob.box [AV.d (.int .i64 s.b), AV.d (.str s.d), AV.d (.int .i64 s.n), AV.own 0 5, AV.d (.sl (List.map ivD s.cm))]) ∧ (True))))))))) (h := {}) (subs := []) (ws := []) (ρ := []) (by kernel_rfl) ?_
  repeat' (with_reducible first | exact True.intro | apply And.intro | (first | apply zA | apply zB | apply zC | apply zD | apply zE | apply zF | apply zG) <;> intro)
  all_goals first | rfl | omega

set_option maxRecDepth 100000 in
set_option maxHeartbeats 1000000 in
theorem lose50n (s : Sq) (h : s.cm.length = 0) : FnOK Try.prog 50 ([oAV s]) ([.row 5 (s.fl.map ckD)]) (.d (.bool false)) ([.row 5 (s.fl.map ckD)]) := by
  refine fnOK_wp (p := (D.bool ((↑(List.map ivD s.cm).length : Int) == (0 : Int)) = D.bool true) ∧ ((AV.d (.bool false) = AV.d (.bool false)) ∧ ((Ob.row 5 (List.map ckD s.fl) = Ob.row 5 (List.map ckD s.fl)) ∧ (True)))) (h := {H := [(1, [(3, .val (.bool true))])]}) (subs := []) (ws := []) (ρ := []) (by kernel_rfl) ?_
  simp only [List.length_map]
  repeat' (with_reducible first | exact True.intro | apply And.intro | (first | apply zA | apply zB | apply zC | apply zD | apply zE | apply zF | apply zG) <;> intro)
  all_goals first | rfl | (refine congrArg D.bool ?_; simp [h]; done) | skip

set_option maxRecDepth 100000 in
set_option maxHeartbeats 1000000 in
theorem lose50y (s : Sq) (hc : 0 < s.cm.length) (hc2 : s.cm.length < 1000000) (z : Iv) (q : Bool) (hw : IntKind.i64.wrap ((s.cm.length : Int) - 1) = (s.cm.length : Int) - 1) (hz : (s.cm.map ivD)[((s.cm.length : Int) - 1).toNat]? = some (ivD z)) (hL : Loops Try.prog 1 (loopN Try.prog 50 0) ((I50 s z.2 false 0).as 49) (.exit 0) ((I50 s z.2 q s.fl.length).as 49)) : FnOK Try.prog 50 ([oAV s]) ([.row 5 (s.fl.map ckD)]) (.d (.bool q)) ([.row 5 ((s.fl.map (loseC z.2)).map ckD)]) := by
  refine fnOK_wp (p := (D.bool ((↑(List.map ivD s.cm).length : Int) == (0 : Int)) = D.bool false) ∧ (((0 : Int) ≤ IntKind.i64.wrap ((↑(List.map ivD s.cm).length : Int) - (1 : Int))) ∧ (((List.map ivD s.cm)[(IntKind.i64.wrap ((↑(List.map ivD s.cm).length : Int) - (1 : Int))).toNat]? = some (D.agg [D.int .i64 z.fst, D.int .i64 z.snd])) ∧ ((AV.ptr 1008 0 = AV.ptr 1008 0) ∧ ((AV.d (.int .i64 z.snd) = AV.d (.int .i64 z.snd)) ∧ ((AV.d (.bool false) = AV.d (.bool false)) ∧ ((AV.d (.int .i64 (↑(List.map ckD s.fl).length : Int)) = AV.d (.int .i64 (↑s.fl.length : Int))) ∧ ((AV.d (.int .i64 (0 : Int)) = AV.d (.int .i64 (0 : Int))) ∧ ((Ob.row 5 (List.map ckD s.fl) = Ob.row 5 (List.map ckD (mapTo (loseC z.snd) s.fl 0))) ∧ ((Ob.box [AV.d (.int .i64 s.b), AV.d (.str s.d), AV.d (.int .i64 s.n), AV.own 0 5, AV.d (.sl (List.map ivD s.cm))] = Ob.box [AV.d (.int .i64 s.b), AV.d (.str s.d), AV.d (.int .i64 s.n), AV.own 0 5, AV.d (.sl (List.map ivD s.cm))]) ∧ ((LoopsS Try.prog 1 (loopN Try.prog 50 0) (I50 s z.snd false 0) (Exit.exit 0) (I50 s z.snd q s.fl.length) 49) ∧ ((AV.d (.bool q) = AV.d (.bool q)) ∧ ((Ob.row 5 (List.map ckD (mapTo (loseC z.snd) s.fl s.fl.length)) = Ob.row 5 (List.map ckD (List.map (loseC z.snd) s.fl))) ∧ (True)))))))))))))) (h := {els := [(12, .el (ivD z))], H := [(1, [(3, .val (.bool false))])]}) (subs := [⟨[], [], I50 s z.2 false 0, .exit 0, I50 s z.2 q s.fl.length⟩]) (ws := []) (ρ := []) (by kernel_rfl) ?_
  have h0 := mapTo_zero (loseC z.2) s.fl
  have h1 := mapTo_end (loseC z.2) s.fl
  simp only [List.length_map, hw]
  repeat' (with_reducible first | exact True.intro | apply And.intro | (first | apply zA | apply zB | apply zC | apply zD | apply zE | apply zF | apply zG) <;> intro)
  all_goals first | exact hL | exact hz | rfl | (rw [h0]; done) | (rw [h1]; done) | (rw [h0]; rfl) | (rw [h1]; rfl) | omega | (refine congrArg D.bool ?_; rw [beq_eq_false_iff_ne]; omega) | skip

theorem lose50 (s : Sq) (hf : s.fl.length < 1000000000) (hc : s.cm.length < 1000000) : FnOK Try.prog 50 [oAV s] [.row 5 (s.fl.map ckD)] (.d (.bool (rLose s).2)) [.row 5 ((rLose s).1.fl.map ckD)] := by
  unfold rLose
  by_cases h : s.cm = []
  · rw [h]
    have := lose50n s (by rw [h]; rfl)
    exact this
  · have hpos := List.length_pos_iff.2 h
    have hw : IntKind.i64.wrap ((s.cm.length : Int) - 1) = (s.cm.length : Int) - 1 := wrap_in (by omega) (by omega)
    obtain ⟨z, hz⟩ : ∃ z, s.cm.getLast? = some z := ⟨_, List.getLast?_eq_some_getLast h⟩
    rw [hz]
    have hz' : (s.cm.map ivD)[((s.cm.length : Int) - 1).toNat]? = some (ivD z) := by
      rw [List.getLast?_eq_getElem?] at hz
      rw [show ((s.cm.length : Int) - 1).toNat = s.cm.length - 1 by omega, List.getElem?_map, hz]; rfl
    have hL := loops_n (P := Try.prog) (k := 1) (c := loopN Try.prog 50 0) (e := .exit 0) (I := fun j => (I50 s z.2 ((s.fl.take j).any (farB z.2)) j).as 49) (by simp) s.fl.length 0 (by omega) (fun j _ hj => by
      have hn := get_of hj
      show Runs _ _ _ _ _ ((I50 s z.2 ((s.fl.take (j + 1)).any (farB z.2)) (j + 1)).as _)
      rw [any_snoc hn]
      have hm := mapTo_get (loseC z.2) hn
      have hs := mapTo_set (loseC z.2) hn
      by_cases g : farB z.2 s.fl[j] = true
      · rw [g, Bool.or_true]
        have hfc : loseC z.2 s.fl[j] = { s.fl[j] with l := true } := by unfold loseC; rw [if_pos g]
        unfold farB at g
        rw [Bool.and_eq_true, Bool.not_eq_true', decide_eq_true_eq] at g
        rw [hfc] at hs
        exact r50c s hf _ _ j _ hn hm g.1 g.2 (by rw [← List.map_set, hs])
      · have g' : farB z.2 s.fl[j] = false := by cases w : farB z.2 s.fl[j]; rfl; exact absurd w g
        have hfc : loseC z.2 s.fl[j] = s.fl[j] := by unfold loseC; rw [if_neg g]
        rw [g', Bool.or_false]
        have hk := mapTo_skip (loseC z.2) hn hfc
        cases hcl : s.fl[j].l
        · refine r50b s hf _ _ j _ hn hm hcl ?_ (by rw [hk])
          intro w
          exact g (by unfold farB; rw [hcl, decide_eq_true w]; rfl)
        · exact r50a s hf _ _ j _ hn hm hcl (by rw [hk])) (by simp only [List.take_length]; exact q50 s _ _)
    exact lose50y s hpos hc z _ hw hz' hL
end Go.Proofs.Ytfllhedkgeljaaa

/-
laws 11, plain: what came, behind an acknowledgement. No program.
-/
set_option linter.unusedSimpArgs false
set_option linter.unusedVariables false
namespace Go.Proofs.Ytfllhedkgeljaaa
open Sx Go.RowKit C06

/-! ### How many intervals there are -/
def spare (p : List Iv × Bool) : Nat := p.1.length + if p.2 then 0 else 1
theorem stA_spare (x : Iv) (p : List Iv × Bool) (y : Iv) : spare (stA x p y) ≤ spare p + 1 := by
  obtain ⟨m, q⟩ := p
  unfold stA spare
  have h1 := pPut_len m x
  have h2 := pPut_len (pPut m x) y
  have h3 := pPut_len m y
  cases q
  · by_cases g : x.1 ≤ y.1
    · rw [if_pos ⟨rfl, g⟩]
      simp only [Bool.false_eq_true, if_false, if_true]
      omega
    · rw [if_neg (fun h => g h.2)]
      simp only [Bool.false_eq_true, if_false]
      omega
  · rw [if_neg (fun h => by cases h.1)]
    simp only [if_true]
    omega
theorem fold_spare (x : Iv) : ∀ (s : List Iv) (p : List Iv × Bool), spare (s.foldl (stA x) p) ≤ spare p + s.length
  | [], p => Nat.le_refl _
  | y :: s, p => by
    have h1 := fold_spare x s (stA x p y)
    have h2 := stA_spare x p y
    rw [List.length_cons]
    show spare (s.foldl (stA x) (stA x p y)) ≤ _
    omega
theorem rAdd_len1 (s : List Iv) (x : Iv) : (rAdd s x).length ≤ s.length + 1 := by
  unfold rAdd
  split
  · omega
  · unfold pAdd
    have h := fold_spare x s ([], false)
    have e : spare ([], false) = 1 := rfl
    rw [e] at h
    unfold pAddF
    generalize s.foldl (stA x) ([], false) = p at *
    obtain ⟨m, q⟩ := p
    unfold spare at h
    have h3 := pPut_len m x
    cases q
    · rw [if_neg (by simp)]
      simp only [Bool.false_eq_true, if_false] at h
      show (pPut m x).length ≤ _
      omega
    · rw [if_pos rfl]
      simp only [if_true] at h
      show m.length ≤ _
      omega
theorem adds_len : ∀ (l s : List Iv), (l.foldl rAdd s).length ≤ s.length + l.length
  | [], s => Nat.le_refl _
  | x :: l, s => by
    have h1 := adds_len l (rAdd s x)
    have h2 := rAdd_len1 s x
    rw [List.length_cons]
    show (l.foldl rAdd (rAdd s x)).length ≤ _
    omega
/-! ### What came in all -/
theorem adds_ok : ∀ {l s : List Iv}, Ok s → (∀ x ∈ l, mayB x = true) → Ok (l.foldl rAdd s) ∧ ∀ n, has (l.foldl rAdd s) n = (has s n || has l n)
  | [], s, h, _ => ⟨h, fun n => by show has s n = (has s n || false); rw [Bool.or_false]⟩
  | x :: l, s, h, hl => by
    obtain ⟨a1, a2⟩ := add_has h (hl x (by simp))
    obtain ⟨b1, b2⟩ := adds_ok a1 fun y hy => hl y (List.mem_cons_of_mem _ hy)
    refine ⟨b1, fun n => ?_⟩
    show has (l.foldl rAdd (rAdd s x)) n = _
    rw [b2, a2, has_cons, Bool.or_assoc]
    rfl
def ackAll (s : Sq) (u : Int) (l : List Iv) : List Iv := l.foldl rAdd (rAdd s.cm (s.b, u))
theorem ackAll_len (s : Sq) (u : Int) (l : List Iv) : (ackAll s u l).length ≤ s.cm.length + 1 + l.length := by
  have h1 := adds_len l (rAdd s.cm (s.b, u))
  have h2 := rAdd_len1 s.cm (s.b, u)
  unfold ackAll
  omega
theorem cameB_ok {s : Sq} (h : cameB s = true) : Ok s.cm ∧ ∀ x ∈ s.cm, s.b < x.1 ∧ x.2 ≤ s.n := by
  unfold cameB at h
  rw [Bool.and_eq_true, decide_eq_true_eq, List.all_eq_true] at h
  refine ⟨iChk_iff.1 h.1, fun x hx => ?_⟩
  obtain ⟨a, b⟩ := camB_t (h.2 x hx)
  omega
theorem mayQ_ok {s : Sq} {u : Int} {l : List Iv} (h : mayQ s u l = true) : sChk s = 0 ∧ (s.b ≤ u ∧ u ≤ s.n) ∧ Ok l ∧ ∀ x ∈ l, u ≤ x.1 ∧ x.2 ≤ s.n := by
  unfold mayQ at h
  rw [Bool.and_eq_true, decide_eq_true_eq, Bool.not_eq_true', List.any_eq_false] at h
  obtain ⟨⟨h1, h2, h3, h4⟩, h5⟩ := h
  refine ⟨h1, ⟨h2, h3⟩, iChk_iff.1 h4, fun x hx => ?_⟩
  have := h5 x hx
  unfold outB at this
  simp only [Bool.or_eq_true, decide_eq_true_eq, not_or] at this
  omega
theorem has_range {l : List Iv} {a b : Int} (h : ∀ x ∈ l, a ≤ x.1 ∧ x.2 ≤ b) {m : Int} (hm : has l m = true) : a ≤ m ∧ m < b := by
  obtain ⟨x, hx, h1, h2⟩ := has_iff.1 hm
  have := h x hx
  omega
structure AllOk (s : Sq) (u : Int) (l all : List Iv) : Prop where
  b0 : 0 ≤ s.b
  bu : s.b ≤ u
  un : u ≤ s.n
  nd : s.n ≤ s.b + s.d.length
  nb : s.n ≤ 1099511628000
  ok : Ok all
  has : ∀ m, has all m = (has s.cm m || (inV (s.b, u) m || has l m))
  rng : ∀ m, C06.has all m = true → s.b ≤ m ∧ m < s.n
theorem all_ok {s : Sq} (hn : s.n < 9223372036854775808) {u : Int} {l : List Iv} (h : mayQ s u l = true) : AllOk s u l (ackAll s u l) := by
  obtain ⟨h1, ⟨h2, h3⟩, h4, h5⟩ := mayQ_ok h
  obtain ⟨⟨c1, c2, c3, c4⟩, c5, c6, c7⟩ := sChk_ok hn h1
  unfold lastP at c2
  obtain ⟨d1, d2⟩ := cameB_ok c6
  have hm : mayB (s.b, u) = true := mayB_iff.2 ⟨⟨c1, by show s.b ≤ _; omega⟩, by show 0 ≤ u; omega, by show u ≤ _; omega⟩
  obtain ⟨a1, a2⟩ := add_has d1 hm
  obtain ⟨b1, b2⟩ := adds_ok (l := l) a1 fun x hx => (ok_may h4 hx).1
  have hh : ∀ m, C06.has (ackAll s u l) m = (C06.has s.cm m || (inV (s.b, u) m || C06.has l m)) := fun m => by
    unfold ackAll
    rw [b2, a2, Bool.or_assoc]
  refine ⟨c1, h2, h3, by omega, by omega, b1, hh, fun m g => ?_⟩
  rw [hh] at g
  rcases Bool.or_eq_true_iff.1 g with g | g
  · have := has_range (a := s.b) (b := s.n) (fun x hx => ⟨by have := d2 x hx; omega, (d2 x hx).2⟩) g
    exact this
  · rcases Bool.or_eq_true_iff.1 g with g | g
    · have : s.b ≤ m ∧ m < u := of_decide_eq_true g
      omega
    · have := has_range h5 g
      omega
theorem all_end {s : Sq} {u : Int} {l all : List Iv} (h : AllOk s u l all) : ∀ x ∈ all, s.b ≤ x.1 ∧ x.2 ≤ s.n := fun x hx => by
  have h1 := srt_mem h.ok.srt x hx
  have h2 := h.rng x.1 (has_iff.2 ⟨x, hx, by omega, by omega⟩)
  have h3 := h.rng (x.2 - 1) (has_iff.2 ⟨x, hx, by omega, by omega⟩)
  omega
theorem first_in {s : Sq} {u : Int} {l all : List Iv} (h : AllOk s u l all) : u ≤ rFirst all u ∧ rFirst all u ≤ s.n ∧ has all (rFirst all u) = false ∧ ∀ m : Int, s.b ≤ m → m < rFirst all u → has all m = true := by
  have hu := h.bu
  have hb := h.b0
  have hun := h.un
  have e : rFirst all u = adv all u := by unfold rFirst adv; rw [show max u 0 = u by omega]
  have h1 := has_adv h.ok.srt u
  rw [e]
  have h2 : ∀ m : Int, s.b ≤ m → m < u → has all m = true := fun m m1 m2 => by
    rw [h.has, show inV (s.b, u) m = true from decide_eq_true (by show s.b ≤ m ∧ m < u; omega), Bool.true_or, Bool.or_true]
  unfold adv at h1 ⊢
  by_cases g : (fnd all u).2 = true
  · rw [if_pos g] at h1 ⊢
    obtain ⟨m1, m2, m3⟩ := fnd_mem g
    have m4 := all_end h _ m1
    refine ⟨by omega, m4.2, h1, fun m k1 k2 => ?_⟩
    by_cases k3 : m < u
    · exact h2 m k1 k3
    · exact has_iff.2 ⟨_, m1, by omega, k2⟩
  · rw [if_neg g] at h1 ⊢
    exact ⟨by omega, hun, h1, h2⟩
end Go.Proofs.Ytfllhedkgeljaaa
