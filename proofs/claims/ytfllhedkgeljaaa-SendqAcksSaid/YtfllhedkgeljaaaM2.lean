import Derived.Test.YtfllhedkgeljaaaM1

/-
laws 11: what is sent next.
-/
set_option linter.unusedSimpArgs false
set_option linter.unusedVariables false
namespace Go.Proofs.Ytfllhedkgeljaaa
open Sx Go.RowKit C06

def ck0 : Ck := ⟨0, 0, 0, 0, false⟩
def bytesOf (s : Sq) (c : Ck) : List UInt8 := (s.d.drop (c.f - s.b).toNat).take ((c.t - s.b).toNat - (c.f - s.b).toNat)
def lostB (c : Ck) : Bool := c.l
/-- How much is sent anew. -/
def pkN (s : Sq) (win limit : Int) : Int := min (min (min (s.b + (s.d.length : Int) - s.n) 48) (win - rFlight s)) (limit - s.n)
def pkC (s : Sq) (now win limit : Int) : Ck := ⟨s.n, s.n + pkN s win limit, now, 1, false⟩
def rPick (s : Sq) (now win limit : Int) : Sq × Ck × List UInt8 :=
  if sChk s ≠ 0 ∨ tickB now = false then (s, ck0, [])
  else match s.fl.findIdx? lostB with
  | some i => match s.fl[i]? with
    | some c => if rFlight s = 0 ∨ rFlight s + (c.t - c.f) ≤ win then ({ s with fl := s.fl.set i (again c now) }, again c now, bytesOf s c) else (s, ck0, [])
    | none => (s, ck0, [])
  | none => if s.b + (s.d.length : Int) - s.n = 0 ∨ win ≤ rFlight s ∨ limit ≤ s.n then (s, ck0, [])
    else ({ s with n := s.n + pkN s win limit, fl := s.fl ++ [pkC s now win limit] }, pkC s now win limit, bytesOf s (pkC s now win limit))
def oAV (s : Sq) : AV := .agg [.d (.int .i64 s.b), .d (.str s.d), .d (.int .i64 s.n), .own 0 5, .d (.sl (s.cm.map ivD))]
set_option maxRecDepth 100000 in
set_option maxHeartbeats 1000000 in
theorem pick12a (s : Sq) (now win limit : Int) (k1 : FnOK Try.prog 33 [.d (sqD s)] [] (oAV s) [.row 5 (s.fl.map ckD)]) (k2 : FnOK Try.prog 34 [.d (.int .i64 now)] [] (.d (.bool (tickB now))) []) (ht : tickB now = false) (k3 k4 k5 k6 hm he hq : True) : FnOK Try.prog 12 ([.d (sqD s), .d (.int .i64 now), .d (.int .i64 win), .d (.int .i64 limit)]) ([]) (.tup [.d (sqD s), .d (ckD ck0), .d (.str [])]) ([]) := by
  refine fnOK_wp (p := (FnOK Try.prog 33 [AV.d (.agg [D.int .i64 s.b, D.str s.d, D.int .i64 s.n, D.sl (List.map ckD s.fl), D.sl (List.map ivD s.cm)])] [] (AV.agg [AV.d (.int .i64 s.b), AV.d (.str s.d), AV.d (.int .i64 s.n), AV.own 0 5, AV.d (.sl (List.map ivD s.cm))]) [Ob.row 5 (List.map ckD s.fl)]) ∧ ((FnOK Try.prog 34 [AV.d (.int .i64 now)] [] (AV.d (.bool (tickB now))) []) ∧ (((D.bool !tickB now) = D.bool true) ∧ ((AV.tup [AV.d (.agg [D.int .i64 s.b, D.str s.d, D.int .i64 s.n, D.sl (List.map ckD s.fl), D.sl (List.map ivD s.cm)]), AV.d (.agg [D.int .i64 (0 : Int), D.int .i64 (0 : Int), D.int .i64 (0 : Int), D.int .i64 (0 : Int), D.bool false]), AV.d (.str [])] = AV.tup [AV.d (.agg [D.int .i64 s.b, D.str s.d, D.int .i64 s.n, D.sl (List.map ckD s.fl), D.sl (List.map ivD s.cm)]), AV.d (.agg [D.int .i64 (0 : Int), D.int .i64 (0 : Int), D.int .i64 (0 : Int), D.int .i64 (0 : Int), D.bool false]), AV.d (.str [])]) ∧ (True))))) (h := {H := [(1, [(1, .call [] (oAV s) [.row 5 (s.fl.map ckD)])]), (2, [(1, .call [] (.d (.bool (tickB now))) []), (3, .val (.bool true))])]}) (subs := []) (ws := []) (ρ := []) (by kernel_rfl) ?_
  repeat' (with_reducible first | exact True.intro | apply And.intro | (first | apply zA | apply zB | apply zC | apply zD | apply zE | apply zF | apply zG) <;> intro)
  all_goals first | exact k1 | exact k2 | exact k3 | exact k4 | exact k5 | exact k6 | rfl | omega | exact congrArg (D.int .i64) hm | exact dyes (by omega) | exact dno (by omega) | (refine congrArg D.bool ?_; simp [ht]; done) | (refine congrArg D.bool ?_; simp [he]; done) | (refine congrArg D.bool ?_; exact hq) | skip

set_option maxRecDepth 100000 in
set_option maxHeartbeats 1000000 in
theorem pick12b (s : Sq) (now win limit : Int) (k1 : FnOK Try.prog 33 [.d (sqD s)] [] (oAV s) [.row 5 (s.fl.map ckD)]) (k2 : FnOK Try.prog 34 [.d (.int .i64 now)] [] (.d (.bool (tickB now))) []) (ht : tickB now = true) (e : Int) (k3 : FnOK Try.prog 28 [.d (sqD s)] [] (.d (.int .i64 e)) []) (he : e ≠ 0) (k4 k5 k6 hm hq : True) : FnOK Try.prog 12 ([.d (sqD s), .d (.int .i64 now), .d (.int .i64 win), .d (.int .i64 limit)]) ([]) (.tup [.d (sqD s), .d (ckD ck0), .d (.str [])]) ([]) := by
  refine fnOK_wp (p := (FnOK Try.prog 33 [AV.d (.agg [D.int .i64 s.b, D.str s.d, D.int .i64 s.n, D.sl (List.map ckD s.fl), D.sl (List.map ivD s.cm)])] [] (AV.agg [AV.d (.int .i64 s.b), AV.d (.str s.d), AV.d (.int .i64 s.n), AV.own 0 5, AV.d (.sl (List.map ivD s.cm))]) [Ob.row 5 (List.map ckD s.fl)]) ∧ ((FnOK Try.prog 34 [AV.d (.int .i64 now)] [] (AV.d (.bool (tickB now))) []) ∧ (((D.bool !tickB now) = D.bool false) ∧ ((FnOK Try.prog 28 [AV.d (.agg [D.int .i64 s.b, D.str s.d, D.int .i64 s.n, D.sl (List.map ckD s.fl), D.sl (List.map ivD s.cm)])] [] (AV.d (.int .i64 e)) []) ∧ ((D.bool (e != (0 : Int)) = D.bool true) ∧ ((AV.tup [AV.d (.agg [D.int .i64 s.b, D.str s.d, D.int .i64 s.n, D.sl (List.map ckD s.fl), D.sl (List.map ivD s.cm)]), AV.d (.agg [D.int .i64 (0 : Int), D.int .i64 (0 : Int), D.int .i64 (0 : Int), D.int .i64 (0 : Int), D.bool false]), AV.d (.str [])] = AV.tup [AV.d (.agg [D.int .i64 s.b, D.str s.d, D.int .i64 s.n, D.sl (List.map ckD s.fl), D.sl (List.map ivD s.cm)]), AV.d (.agg [D.int .i64 (0 : Int), D.int .i64 (0 : Int), D.int .i64 (0 : Int), D.int .i64 (0 : Int), D.bool false]), AV.d (.str [])]) ∧ (True))))))) (h := {H := [(1, [(1, .call [] (oAV s) [.row 5 (s.fl.map ckD)])]), (2, [(1, .call [] (.d (.bool (tickB now))) []), (3, .val (.bool false)), (5, .call [] (.d (.int .i64 e)) []), (7, .val (.bool true))])]}) (subs := []) (ws := []) (ρ := []) (by kernel_rfl) ?_
  repeat' (with_reducible first | exact True.intro | apply And.intro | (first | apply zA | apply zB | apply zC | apply zD | apply zE | apply zF | apply zG) <;> intro)
  all_goals first | exact k1 | exact k2 | exact k3 | exact k4 | exact k5 | exact k6 | rfl | omega | exact congrArg (D.int .i64) hm | exact dyes (by omega) | exact dno (by omega) | (refine congrArg D.bool ?_; simp [ht]; done) | (refine congrArg D.bool ?_; simp [he]; done) | (refine congrArg D.bool ?_; exact hq) | skip

set_option maxRecDepth 100000 in
set_option maxHeartbeats 1000000 in
theorem pick12c (s : Sq) (now win limit : Int) (k1 : FnOK Try.prog 33 [.d (sqD s)] [] (oAV s) [.row 5 (s.fl.map ckD)]) (k2 : FnOK Try.prog 34 [.d (.int .i64 now)] [] (.d (.bool (tickB now))) []) (ht : tickB now = true) (e : Int) (k3 : FnOK Try.prog 28 [.d (sqD s)] [] (.d (.int .i64 e)) []) (he : e = 0) (f : Int) (k4 : FnOK Try.prog 24 [.d (sqD s)] [] (.d (.int .i64 f)) []) (i : Nat) (c : Ck) (hn : s.fl[i]? = some c) (k5 : FnOK Try.prog 35 [.d (.sl (s.fl.map ckD)), .fn 36 []] [] (.d (.int .i64 i)) []) (hw : ¬(f = 0 ∨ f + (c.t - c.f) ≤ win)) (hz : cSz c = c.t - c.f) (hf : IntKind.i64.wrap (f + (c.t - c.f)) = f + (c.t - c.f)) (k6 hm hq : True) : FnOK Try.prog 12 ([.d (sqD s), .d (.int .i64 now), .d (.int .i64 win), .d (.int .i64 limit)]) ([]) (.tup [.d (sqD s), .d (ckD ck0), .d (.str [])]) ([]) := by
  refine fnOK_wp (p := (FnOK Try.prog 33 [AV.d (.agg [D.int .i64 s.b, D.str s.d, D.int .i64 s.n, D.sl (List.map ckD s.fl), D.sl (List.map ivD s.cm)])] [] (AV.agg [AV.d (.int .i64 s.b), AV.d (.str s.d), AV.d (.int .i64 s.n), AV.own 0 5, AV.d (.sl (List.map ivD s.cm))]) [Ob.row 5 (List.map ckD s.fl)]) ∧ ((FnOK Try.prog 34 [AV.d (.int .i64 now)] [] (AV.d (.bool (tickB now))) []) ∧ (((D.bool !tickB now) = D.bool false) ∧ ((FnOK Try.prog 28 [AV.d (.agg [D.int .i64 s.b, D.str s.d, D.int .i64 s.n, D.sl (List.map ckD s.fl), D.sl (List.map ivD s.cm)])] [] (AV.d (.int .i64 e)) []) ∧ ((D.bool (e != (0 : Int)) = D.bool false) ∧ ((FnOK Try.prog 24 [AV.d (.agg [D.int .i64 s.b, D.str s.d, D.int .i64 s.n, D.sl (List.map ckD s.fl), D.sl (List.map ivD s.cm)])] [] (AV.d (.int .i64 f)) []) ∧ ((FnOK Try.prog 35 [AV.d (.sl (List.map ckD s.fl)), AV.fn 36 []] [] (AV.d (.int .i64 (↑i : Int))) []) ∧ ((D.bool true = D.bool true) ∧ ((D.bool (f == (0 : Int)) = D.bool false) ∧ (((0 : Int) ≤ (↑i : Int) ∧ (↑i : Int) < (↑(List.map ckD s.fl).length : Int)) ∧ ((5 = 5) ∧ (((List.map ckD s.fl)[(↑i : Int).toNat]? = some (D.agg [D.int .i64 c.f, D.int .i64 c.t, D.int .i64 c.s, D.int .i64 c.r, D.bool c.l])) ∧ ((FnOK Try.prog 37 [AV.d (.agg [D.int .i64 c.f, D.int .i64 c.t, D.int .i64 c.s, D.int .i64 c.r, D.bool c.l])] [] (AV.d (.int .i64 (cSz c))) []) ∧ ((D.bool (decide (IntKind.i64.wrap (f + cSz c) ≤ win)) = D.bool false) ∧ ((AV.tup [AV.d (.agg [D.int .i64 s.b, D.str s.d, D.int .i64 s.n, D.sl (List.map ckD s.fl), D.sl (List.map ivD s.cm)]), AV.d (.agg [D.int .i64 (0 : Int), D.int .i64 (0 : Int), D.int .i64 (0 : Int), D.int .i64 (0 : Int), D.bool false]), AV.d (.str [])] = AV.tup [AV.d (.agg [D.int .i64 s.b, D.str s.d, D.int .i64 s.n, D.sl (List.map ckD s.fl), D.sl (List.map ivD s.cm)]), AV.d (.agg [D.int .i64 (0 : Int), D.int .i64 (0 : Int), D.int .i64 (0 : Int), D.int .i64 (0 : Int), D.bool false]), AV.d (.str [])]) ∧ (True)))))))))))))))) (h := {els := [(43, .el (ckD c))], H := [(1, [(1, .call [] (oAV s) [.row 5 (s.fl.map ckD)])]), (2, [(1, .call [] (.d (.bool (tickB now))) []), (3, .val (.bool false)), (5, .call [] (.d (.int .i64 e)) []), (7, .val (.bool false))]), (4, [(1, .call [] (.d (.int .i64 f)) [])]), (5, [(2, .call [] (.d (.int .i64 i)) [])]), (6, [(1, .val (.bool true))]), (7, [(2, .val (.bool false)), (9, .call [] (.d (.int .i64 (cSz c))) []), (13, .val (.bool false))])]}) (subs := []) (ws := []) (ρ := []) (by kernel_rfl) ?_
  have k7 := size37 c trivial trivial
  have hj := get_lt hn
  simp only [hz] at *
  repeat' (with_reducible first | exact True.intro | apply And.intro | (first | apply zA | apply zB | apply zC | apply zD | apply zE | apply zF | apply zG) <;> intro)
  all_goals first | exact k1 | exact k2 | exact k3 | exact k4 | exact k5 | exact k7 | exact el_map hn rfl | rfl | omega | (rw [hf]; exact dno (by omega)) | exact dyes (by omega) | exact dno (by omega) | (refine congrArg D.bool ?_; simp [ht]; done) | (refine congrArg D.bool ?_; simp [he]; done) | (refine congrArg D.bool ?_; rw [beq_eq_false_iff_ne]; omega) | (simp; omega) | skip

set_option maxRecDepth 100000 in
set_option maxHeartbeats 1000000 in
theorem pick12d (s : Sq) (now win limit : Int) (k1 : FnOK Try.prog 33 [.d (sqD s)] [] (oAV s) [.row 5 (s.fl.map ckD)]) (k2 : FnOK Try.prog 34 [.d (.int .i64 now)] [] (.d (.bool (tickB now))) []) (ht : tickB now = true) (e : Int) (k3 : FnOK Try.prog 28 [.d (sqD s)] [] (.d (.int .i64 e)) []) (he : e = 0) (f : Int) (k4 : FnOK Try.prog 24 [.d (sqD s)] [] (.d (.int .i64 f)) []) (i : Nat) (c : Ck) (hn : s.fl[i]? = some c) (k5 : FnOK Try.prog 35 [.d (.sl (s.fl.map ckD)), .fn 36 []] [] (.d (.int .i64 i)) []) (q : Bool) (hw : f = 0 ∨ f + (c.t - c.f) ≤ win) (hz : cSz c = c.t - c.f) (hf : IntKind.i64.wrap (f + (c.t - c.f)) = f + (c.t - c.f)) (s' : Sq) (c' : Ck) (t : List UInt8) (k6 : FnOK Try.prog 38 [oAV s, .d (.int .i64 i), .d (.int .i64 now)] [.row 5 (s.fl.map ckD)] (.tup [oAV s', .d (ckD c'), .d (.str t)]) [.row 5 (s'.fl.map ckD)]) : FnOK Try.prog 12 ([.d (sqD s), .d (.int .i64 now), .d (.int .i64 win), .d (.int .i64 limit)]) ([]) (.tup [.d (sqD s'), .d (ckD c'), .d (.str t)]) ([]) := by
  refine fnOK_wp (p := (FnOK Try.prog 33 [AV.d (.agg [D.int .i64 s.b, D.str s.d, D.int .i64 s.n, D.sl (List.map ckD s.fl), D.sl (List.map ivD s.cm)])] [] (AV.agg [AV.d (.int .i64 s.b), AV.d (.str s.d), AV.d (.int .i64 s.n), AV.own 0 5, AV.d (.sl (List.map ivD s.cm))]) [Ob.row 5 (List.map ckD s.fl)]) ∧ ((FnOK Try.prog 34 [AV.d (.int .i64 now)] [] (AV.d (.bool (tickB now))) []) ∧ (((D.bool !tickB now) = D.bool false) ∧ ((FnOK Try.prog 28 [AV.d (.agg [D.int .i64 s.b, D.str s.d, D.int .i64 s.n, D.sl (List.map ckD s.fl), D.sl (List.map ivD s.cm)])] [] (AV.d (.int .i64 e)) []) ∧ ((D.bool (e != (0 : Int)) = D.bool false) ∧ ((FnOK Try.prog 24 [AV.d (.agg [D.int .i64 s.b, D.str s.d, D.int .i64 s.n, D.sl (List.map ckD s.fl), D.sl (List.map ivD s.cm)])] [] (AV.d (.int .i64 f)) []) ∧ ((FnOK Try.prog 35 [AV.d (.sl (List.map ckD s.fl)), AV.fn 36 []] [] (AV.d (.int .i64 (↑i : Int))) []) ∧ ((D.bool true = D.bool true) ∧ (condP (f == (0 : Int)) ((D.bool (f == (0 : Int)) = D.bool true) ∧ ((D.bool true = D.bool true) ∧ ((FnOK Try.prog 38 [AV.agg [AV.d (.int .i64 s.b), AV.d (.str s.d), AV.d (.int .i64 s.n), AV.own 0 5, AV.d (.sl (List.map ivD s.cm))], AV.d (.int .i64 (↑i : Int)), AV.d (.int .i64 now)] [Ob.row 5 (List.map ckD s.fl)] (AV.tup [AV.agg [AV.d (.int .i64 s'.b), AV.d (.str s'.d), AV.d (.int .i64 s'.n), AV.own 0 5, AV.d (.sl (List.map ivD s'.cm))], AV.d (.agg [D.int .i64 c'.f, D.int .i64 c'.t, D.int .i64 c'.s, D.int .i64 c'.r, D.bool c'.l]), AV.d (.str t)]) [Ob.row 5 (List.map ckD s'.fl)]) ∧ ((AV.tup [AV.d (.agg [D.int .i64 s'.b, D.str s'.d, D.int .i64 s'.n, D.sl (List.map ckD s'.fl), D.sl (List.map ivD s'.cm)]), AV.d (.agg [D.int .i64 c'.f, D.int .i64 c'.t, D.int .i64 c'.s, D.int .i64 c'.r, D.bool c'.l]), AV.d (.str t)] = AV.tup [AV.d (.agg [D.int .i64 s'.b, D.str s'.d, D.int .i64 s'.n, D.sl (List.map ckD s'.fl), D.sl (List.map ivD s'.cm)]), AV.d (.agg [D.int .i64 c'.f, D.int .i64 c'.t, D.int .i64 c'.s, D.int .i64 c'.r, D.bool c'.l]), AV.d (.str t)]) ∧ (True))))) ((D.bool (f == (0 : Int)) = D.bool false) ∧ (((0 : Int) ≤ (↑i : Int) ∧ (↑i : Int) < (↑(List.map ckD s.fl).length : Int)) ∧ ((5 = 5) ∧ (((List.map ckD s.fl)[(↑i : Int).toNat]? = some (D.agg [D.int .i64 c.f, D.int .i64 c.t, D.int .i64 c.s, D.int .i64 c.r, D.bool c.l])) ∧ ((FnOK Try.prog 37 [AV.d (.agg [D.int .i64 c.f, D.int .i64 c.t, D.int .i64 c.s, D.int .i64 c.r, D.bool c.l])] [] (AV.d (.int .i64 (cSz c))) []) ∧ ((D.bool (decide (IntKind.i64.wrap (f + cSz c) ≤ win)) = D.bool true) ∧ ((FnOK Try.prog 38 [AV.agg [AV.d (.int .i64 s.b), AV.d (.str s.d), AV.d (.int .i64 s.n), AV.own 0 5, AV.d (.sl (List.map ivD s.cm))], AV.d (.int .i64 (↑i : Int)), AV.d (.int .i64 now)] [Ob.row 5 (List.map ckD s.fl)] (AV.tup [AV.agg [AV.d (.int .i64 s'.b), AV.d (.str s'.d), AV.d (.int .i64 s'.n), AV.own 0 5, AV.d (.sl (List.map ivD s'.cm))], AV.d (.agg [D.int .i64 c'.f, D.int .i64 c'.t, D.int .i64 c'.s, D.int .i64 c'.r, D.bool c'.l]), AV.d (.str t)]) [Ob.row 5 (List.map ckD s'.fl)]) ∧ ((AV.tup [AV.d (.agg [D.int .i64 s'.b, D.str s'.d, D.int .i64 s'.n, D.sl (List.map ckD s'.fl), D.sl (List.map ivD s'.cm)]), AV.d (.agg [D.int .i64 c'.f, D.int .i64 c'.t, D.int .i64 c'.s, D.int .i64 c'.r, D.bool c'.l]), AV.d (.str t)] = AV.tup [AV.d (.agg [D.int .i64 s'.b, D.str s'.d, D.int .i64 s'.n, D.sl (List.map ckD s'.fl), D.sl (List.map ivD s'.cm)]), AV.d (.agg [D.int .i64 c'.f, D.int .i64 c'.t, D.int .i64 c'.s, D.int .i64 c'.r, D.bool c'.l]), AV.d (.str t)]) ∧ (True)))))))))))))))))) (h := {els := [(43, .el (ckD c))], H := [(1, [(1, .call [] (oAV s) [.row 5 (s.fl.map ckD)])]), (2, [(1, .call [] (.d (.bool (tickB now))) []), (3, .val (.bool false)), (5, .call [] (.d (.int .i64 e)) []), (7, .val (.bool false))]), (4, [(1, .call [] (.d (.int .i64 f)) [])]), (5, [(2, .call [] (.d (.int .i64 i)) [])]), (6, [(1, .val (.bool true))]), (7, [(9, .call [] (.d (.int .i64 (cSz c))) []), (13, .val (.bool true))]), (8, [(3, .call [1144] (.tup [oAV s', .d (ckD c'), .d (.str t)]) [.row 5 (s'.fl.map ckD)])])]}) (subs := []) (ws := []) (ρ := []) (by kernel_rfl) ?_
  have k7 := size37 c trivial trivial
  have hj := get_lt hn
  simp only [hz] at *
  repeat' (with_reducible first | exact True.intro | apply And.intro | (first | apply zA | apply zB | apply zC | apply zD | apply zE | apply zF | apply zG) <;> intro)
  all_goals first | exact k1 | exact k2 | exact k3 | exact k4 | exact k5 | exact k6 | exact k7 | exact el_map hn rfl | rfl | omega | (rw [hf]; exact dyes (by omega)) | exact dyes (by omega) | exact dno (by omega) | (refine congrArg D.bool ?_; simp [ht]; done) | (refine congrArg D.bool ?_; simp [he]; done) | (refine congrArg D.bool ?_; simp_all; done) | (simp; omega) | (exfalso; simp_all; omega) | skip

set_option maxRecDepth 100000 in
set_option maxHeartbeats 1000000 in
theorem pick12e (s : Sq) (now win limit : Int) (k1 : FnOK Try.prog 33 [.d (sqD s)] [] (oAV s) [.row 5 (s.fl.map ckD)]) (k2 : FnOK Try.prog 34 [.d (.int .i64 now)] [] (.d (.bool (tickB now))) []) (ht : tickB now = true) (e : Int) (k3 : FnOK Try.prog 28 [.d (sqD s)] [] (.d (.int .i64 e)) []) (he : e = 0) (f : Int) (k4 : FnOK Try.prog 24 [.d (sqD s)] [] (.d (.int .i64 f)) []) (k5 : FnOK Try.prog 35 [.d (.sl (s.fl.map ckD)), .fn 36 []] [] (.d (.int .i64 (-1))) []) (l : Int) (hl : IntKind.i64.wrap (IntKind.i64.wrap (s.b + (s.d.length : Int)) - s.n) = l) (hw : l = 0 ∨ win ≤ f ∨ limit ≤ s.n) (k6 hm hq : True) : FnOK Try.prog 12 ([.d (sqD s), .d (.int .i64 now), .d (.int .i64 win), .d (.int .i64 limit)]) ([]) (.tup [.d (sqD s), .d (ckD ck0), .d (.str [])]) ([]) := by
  refine fnOK_wp (p := (FnOK Try.prog 33 [AV.d (.agg [D.int .i64 s.b, D.str s.d, D.int .i64 s.n, D.sl (List.map ckD s.fl), D.sl (List.map ivD s.cm)])] [] (AV.agg [AV.d (.int .i64 s.b), AV.d (.str s.d), AV.d (.int .i64 s.n), AV.own 0 5, AV.d (.sl (List.map ivD s.cm))]) [Ob.row 5 (List.map ckD s.fl)]) ∧ ((FnOK Try.prog 34 [AV.d (.int .i64 now)] [] (AV.d (.bool (tickB now))) []) ∧ (((D.bool !tickB now) = D.bool false) ∧ ((FnOK Try.prog 28 [AV.d (.agg [D.int .i64 s.b, D.str s.d, D.int .i64 s.n, D.sl (List.map ckD s.fl), D.sl (List.map ivD s.cm)])] [] (AV.d (.int .i64 e)) []) ∧ ((D.bool (e != (0 : Int)) = D.bool false) ∧ ((FnOK Try.prog 24 [AV.d (.agg [D.int .i64 s.b, D.str s.d, D.int .i64 s.n, D.sl (List.map ckD s.fl), D.sl (List.map ivD s.cm)])] [] (AV.d (.int .i64 f)) []) ∧ ((FnOK Try.prog 35 [AV.d (.sl (List.map ckD s.fl)), AV.fn 36 []] [] (AV.d (.int .i64 (-1 : Int))) []) ∧ ((D.int .i64 (IntKind.i64.wrap (IntKind.i64.wrap (s.b + (↑s.d.length : Int)) - s.n)) = D.int .i64 l) ∧ (condP (l == (0 : Int)) ((D.bool (l == (0 : Int)) = D.bool true) ∧ ((D.bool true = D.bool true) ∧ ((D.bool true = D.bool true) ∧ ((AV.tup [AV.d (.agg [D.int .i64 s.b, D.str s.d, D.int .i64 s.n, D.sl (List.map ckD s.fl), D.sl (List.map ivD s.cm)]), AV.d (.agg [D.int .i64 (0 : Int), D.int .i64 (0 : Int), D.int .i64 (0 : Int), D.int .i64 (0 : Int), D.bool false]), AV.d (.str [])] = AV.tup [AV.d (.agg [D.int .i64 s.b, D.str s.d, D.int .i64 s.n, D.sl (List.map ckD s.fl), D.sl (List.map ivD s.cm)]), AV.d (.agg [D.int .i64 (0 : Int), D.int .i64 (0 : Int), D.int .i64 (0 : Int), D.int .i64 (0 : Int), D.bool false]), AV.d (.str [])]) ∧ (True))))) (condP (decide (win ≤ f)) ((D.bool (l == (0 : Int)) = D.bool false) ∧ ((D.bool (decide (win ≤ f)) = D.bool true) ∧ ((D.bool true = D.bool true) ∧ ((AV.tup [AV.d (.agg [D.int .i64 s.b, D.str s.d, D.int .i64 s.n, D.sl (List.map ckD s.fl), D.sl (List.map ivD s.cm)]), AV.d (.agg [D.int .i64 (0 : Int), D.int .i64 (0 : Int), D.int .i64 (0 : Int), D.int .i64 (0 : Int), D.bool false]), AV.d (.str [])] = AV.tup [AV.d (.agg [D.int .i64 s.b, D.str s.d, D.int .i64 s.n, D.sl (List.map ckD s.fl), D.sl (List.map ivD s.cm)]), AV.d (.agg [D.int .i64 (0 : Int), D.int .i64 (0 : Int), D.int .i64 (0 : Int), D.int .i64 (0 : Int), D.bool false]), AV.d (.str [])]) ∧ (True))))) ((D.bool (l == (0 : Int)) = D.bool false) ∧ ((D.bool (decide (win ≤ f)) = D.bool false) ∧ ((D.bool (decide (limit ≤ s.n)) = D.bool true) ∧ ((AV.tup [AV.d (.agg [D.int .i64 s.b, D.str s.d, D.int .i64 s.n, D.sl (List.map ckD s.fl), D.sl (List.map ivD s.cm)]), AV.d (.agg [D.int .i64 (0 : Int), D.int .i64 (0 : Int), D.int .i64 (0 : Int), D.int .i64 (0 : Int), D.bool false]), AV.d (.str [])] = AV.tup [AV.d (.agg [D.int .i64 s.b, D.str s.d, D.int .i64 s.n, D.sl (List.map ckD s.fl), D.sl (List.map ivD s.cm)]), AV.d (.agg [D.int .i64 (0 : Int), D.int .i64 (0 : Int), D.int .i64 (0 : Int), D.int .i64 (0 : Int), D.bool false]), AV.d (.str [])]) ∧ (True))))))))))))))) (h := {H := [(1, [(1, .call [] (oAV s) [.row 5 (s.fl.map ckD)])]), (2, [(1, .call [] (.d (.bool (tickB now))) []), (3, .val (.bool false)), (5, .call [] (.d (.int .i64 e)) []), (7, .val (.bool false))]), (4, [(1, .call [] (.d (.int .i64 f)) [])]), (5, [(2, .call [] (.d (.int .i64 (-1))) [])]), (10, [(8, .val (.int .i64 l))]), (11, [(12, .val (.bool true))])]}) (subs := []) (ws := []) (ρ := []) (by kernel_rfl) ?_
  repeat' (with_reducible first | exact True.intro | apply And.intro | (first | apply zA | apply zB | apply zC | apply zD | apply zE | apply zF | apply zG) <;> intro)
  all_goals first | exact k1 | exact k2 | exact k3 | exact k4 | exact k5 | exact congrArg (D.int .i64) hl | rfl | omega | exact dyes (by omega) | exact dno (by omega) | (refine congrArg D.bool ?_; simp [ht]; done) | (refine congrArg D.bool ?_; simp [he]; done) | (exfalso; simp_all; omega) | (exfalso; omega) | skip

set_option maxRecDepth 100000 in
set_option maxHeartbeats 1000000 in
theorem pick12f (s : Sq) (now win limit : Int) (k1 : FnOK Try.prog 33 [.d (sqD s)] [] (oAV s) [.row 5 (s.fl.map ckD)]) (k2 : FnOK Try.prog 34 [.d (.int .i64 now)] [] (.d (.bool (tickB now))) []) (ht : tickB now = true) (e : Int) (k3 : FnOK Try.prog 28 [.d (sqD s)] [] (.d (.int .i64 e)) []) (he : e = 0) (f : Int) (k4 : FnOK Try.prog 24 [.d (sqD s)] [] (.d (.int .i64 f)) []) (k5 : FnOK Try.prog 35 [.d (.sl (s.fl.map ckD)), .fn 36 []] [] (.d (.int .i64 (-1))) []) (l : Int) (hl : IntKind.i64.wrap (IntKind.i64.wrap (s.b + (s.d.length : Int)) - s.n) = l) (hw : ¬(l = 0 ∨ win ≤ f ∨ limit ≤ s.n)) (hfl : s.fl.length < 1000000) (m u : Int) (hm : min (min (min l 48) (IntKind.i64.wrap (win - f))) (IntKind.i64.wrap (limit - s.n)) = m) (hu : IntKind.i64.wrap (s.n + m) = u) (c : Ck) (hc : c = ⟨s.n, u, now, 1, false⟩) (t : List UInt8) (k6 : FnOK Try.prog 39 [.d (sqD { s with n := u, fl := s.fl ++ [c] }), .d (ckD c)] [] (.d (.str t)) []) : FnOK Try.prog 12 ([.d (sqD s), .d (.int .i64 now), .d (.int .i64 win), .d (.int .i64 limit)]) ([]) (.tup [.d (sqD { s with n := u, fl := s.fl ++ [c] }), .d (ckD c), .d (.str t)]) ([]) := by
  refine fnOK_wp (p := (FnOK Try.prog 33 [AV.d (.agg [D.int .i64 s.b, D.str s.d, D.int .i64 s.n, D.sl (List.map ckD s.fl), D.sl (List.map ivD s.cm)])] [] (AV.agg [AV.d (.int .i64 s.b), AV.d (.str s.d), AV.d (.int .i64 s.n), AV.own 0 5, AV.d (.sl (List.map ivD s.cm))]) [Ob.row 5 (List.map ckD s.fl)]) ∧ ((FnOK Try.prog 34 [AV.d (.int .i64 now)] [] (AV.d (.bool (tickB now))) []) ∧ (((D.bool !tickB now) = D.bool false) ∧ ((FnOK Try.prog 28 [AV.d (.agg [D.int .i64 s.b, D.str s.d, D.int .i64 s.n, D.sl (List.map ckD s.fl), D.sl (List.map ivD s.cm)])] [] (AV.d (.int .i64 e)) []) ∧ ((D.bool (e != (0 : Int)) = D.bool false) ∧ ((FnOK Try.prog 24 [AV.d (.agg [D.int .i64 s.b, D.str s.d, D.int .i64 s.n, D.sl (List.map ckD s.fl), D.sl (List.map ivD s.cm)])] [] (AV.d (.int .i64 f)) []) ∧ ((FnOK Try.prog 35 [AV.d (.sl (List.map ckD s.fl)), AV.fn 36 []] [] (AV.d (.int .i64 (-1 : Int))) []) ∧ ((D.int .i64 (IntKind.i64.wrap (IntKind.i64.wrap (s.b + (↑s.d.length : Int)) - s.n)) = D.int .i64 l) ∧ ((D.bool (l == (0 : Int)) = D.bool false) ∧ ((D.bool (decide (win ≤ f)) = D.bool false) ∧ ((D.bool (decide (limit ≤ s.n)) = D.bool false) ∧ ((D.int .i64 (min (min (min l (48 : Int)) (IntKind.i64.wrap (win - f))) (IntKind.i64.wrap (limit - s.n))) = D.int .i64 m) ∧ ((D.int .i64 (IntKind.i64.wrap (s.n + m)) = D.int .i64 u) ∧ ((D.agg [D.int .i64 s.n, D.int .i64 u, D.int .i64 now, D.int .i64 (1 : Int), D.bool false] = D.agg [D.int .i64 c.f, D.int .i64 c.t, D.int .i64 c.s, D.int .i64 c.r, D.bool c.l]) ∧ ((((List.map ckD s.fl).length + [D.agg (List.take 5 [D.int .i64 c.f, D.int .i64 c.t, D.int .i64 c.s, D.int .i64 c.r, D.bool c.l])].length) * 40 ≤ 140737488355328) ∧ ((∀ (e : D), e ∈ chunk 5 1 [D.int .i64 c.f, D.int .i64 c.t, D.int .i64 c.s, D.int .i64 c.r, D.bool c.l] → e.cells.length = 5) ∧ ((FnOK Try.prog 39 [AV.d (.agg [D.int .i64 s.b, D.str s.d, D.int .i64 c.t, D.sl (List.map ckD s.fl ++ [D.agg (List.take 5 [D.int .i64 c.f, D.int .i64 c.t, D.int .i64 c.s, D.int .i64 c.r, D.bool c.l])]), D.sl (List.map ivD s.cm)]), AV.d (.agg [D.int .i64 c.f, D.int .i64 c.t, D.int .i64 c.s, D.int .i64 c.r, D.bool c.l])] [] (AV.d (.str t)) []) ∧ ((AV.tup [AV.d (.agg [D.int .i64 s.b, D.str s.d, D.int .i64 c.t, D.sl (List.map ckD s.fl ++ [D.agg (List.take 5 [D.int .i64 c.f, D.int .i64 c.t, D.int .i64 c.s, D.int .i64 c.r, D.bool c.l])]), D.sl (List.map ivD s.cm)]), AV.d (.agg [D.int .i64 c.f, D.int .i64 c.t, D.int .i64 c.s, D.int .i64 c.r, D.bool c.l]), AV.d (.str t)] = AV.tup [AV.d (.agg [D.int .i64 (Sq.mk s.b s.d u (s.fl ++ [c]) s.cm).b, D.str (Sq.mk s.b s.d u (s.fl ++ [c]) s.cm).d, D.int .i64 (Sq.mk s.b s.d u (s.fl ++ [c]) s.cm).n, D.sl (List.map ckD (Sq.mk s.b s.d u (s.fl ++ [c]) s.cm).fl), D.sl (List.map ivD (Sq.mk s.b s.d u (s.fl ++ [c]) s.cm).cm)]), AV.d (.agg [D.int .i64 c.f, D.int .i64 c.t, D.int .i64 c.s, D.int .i64 c.r, D.bool c.l]), AV.d (.str t)]) ∧ (True))))))))))))))))))) (h := {H := [(1, [(1, .call [] (oAV s) [.row 5 (s.fl.map ckD)])]), (2, [(1, .call [] (.d (.bool (tickB now))) []), (3, .val (.bool false)), (5, .call [] (.d (.int .i64 e)) []), (7, .val (.bool false))]), (4, [(1, .call [] (.d (.int .i64 f)) [])]), (5, [(2, .call [] (.d (.int .i64 (-1))) [])]), (10, [(8, .val (.int .i64 l))]), (11, [(2, .val (.bool false)), (7, .val (.bool false)), (12, .val (.bool false))]), (13, [(8, .val (.int .i64 m))]), (14, [(5, .val (.int .i64 u)), (7, .val (ckD c))]), (17, [(4, .call [] (.d (.str t)) [])])]}) (subs := []) (ws := []) (ρ := []) (by kernel_rfl) ?_
  subst hc
  have hcm : (s.fl ++ [(⟨s.n, u, now, 1, false⟩ : Ck)]).map ckD = s.fl.map ckD ++ [ckD ⟨s.n, u, now, 1, false⟩] := by simp
  have hk : FnOK Try.prog 39 [.d (.agg [.int .i64 s.b, .str s.d, .int .i64 u, .sl (s.fl.map ckD ++ [ckD ⟨s.n, u, now, 1, false⟩]), .sl (s.cm.map ivD)]), .d (ckD ⟨s.n, u, now, 1, false⟩)] [] (.d (.str t)) [] := by rw [← hcm]; exact k6
  have hz : AV.tup [.d (.agg [.int .i64 s.b, .str s.d, .int .i64 u, .sl (s.fl.map ckD ++ [ckD ⟨s.n, u, now, 1, false⟩]), .sl (s.cm.map ivD)]), .d (ckD ⟨s.n, u, now, 1, false⟩), .d (.str t)] = AV.tup [.d (sqD { s with n := u, fl := s.fl ++ [⟨s.n, u, now, 1, false⟩] }), .d (ckD ⟨s.n, u, now, 1, false⟩), .d (.str t)] := by rw [← hcm]; rfl
  repeat' (with_reducible first | exact True.intro | apply And.intro | (first | apply zA | apply zB | apply zC | apply zD | apply zE | apply zF | apply zG) <;> intro)
  all_goals first | exact hk | exact hz | exact k1 | exact k2 | exact k3 | exact k4 | exact k5 | exact k6 | exact congrArg (D.int .i64) hl | exact congrArg (D.int .i64) hm | exact congrArg (D.int .i64) hu | rfl | omega | (rw [hc]; rfl) | exact dyes (by omega) | exact dno (by omega) | (refine congrArg D.bool ?_; simp [ht]; done) | (refine congrArg D.bool ?_; simp [he]; done) | (refine congrArg D.bool ?_; rw [beq_eq_false_iff_ne]; omega) | (simp; omega) | (simp [chunk, ckD, D.cells]; done) | exact ckD_sz _ | skip

theorem flB_mem (s : Sq) : ∀ (l : List Ck) (a : Int), flB s l a = true → ∀ c ∈ l, ∃ a', a ≤ a' ∧ fitsB s c a' = true
  | [], a, _, c, hc => by cases hc
  | x :: l, a, h, c, hc => by
    unfold flB at h
    rw [Bool.and_eq_true] at h
    rcases List.mem_cons.1 hc with rfl | hc
    · exact ⟨a, Int.le_refl _, h.1⟩
    · obtain ⟨a', h1, h2⟩ := flB_mem s l x.t h.2 c hc
      have h3 := h.1
      unfold fitsB offB at h3
      rw [Bool.and_eq_true, Bool.not_eq_true', decide_eq_false_iff_not] at h3
      exact ⟨a', by omega, h2⟩
theorem fits_in {s : Sq} {c : Ck} {a : Int} (ha : 0 ≤ a) (hn : s.n ≤ 1099511632000) (h : fitsB s c a = true) : a ≤ c.f ∧ c.f < c.t ∧ c.t ≤ s.n ∧ c.t - c.f ≤ 48 ∧ cSz c = c.t - c.f ∧ (0 ≤ c.s ∧ c.s ≤ 1099511627776) ∧ (1 ≤ c.r ∧ c.r ≤ 1073741824) ∧ rGaps s.cm (ckI c) = [ckI c] := by
  unfold fitsB offB timB tickB at h
  simp only [Bool.and_eq_true, Bool.not_eq_true', decide_eq_false_iff_not, decide_eq_true_eq] at h
  obtain ⟨h1, ⟨⟨t1, t2⟩, t3, t4⟩, h3⟩ := h
  have hw : cSz c = c.t - c.f := wrap_in (by omega) (by omega)
  rw [hw] at h1
  exact ⟨by omega, by omega, by omega, by omega, hw, ⟨t1, t2⟩, ⟨by omega, t4⟩, h3⟩
theorem fl_bd (s : Sq) (hn : s.n ≤ 1099511632000) : ∀ (l : List Ck) (a m : Int), 0 ≤ a → a ≤ s.n → flB s l a = true → 0 ≤ m → m ≤ a → m ≤ l.foldl flS m ∧ l.foldl flS m ≤ m + (s.n - a)
  | [], a, m, _, _, _, _, _ => ⟨Int.le_refl _, by show m ≤ _; omega⟩
  | c :: l, a, m, ha, han, h, hm, hma => by
    unfold flB at h
    rw [Bool.and_eq_true] at h
    obtain ⟨f1, f2, f3, f4, f5, -⟩ := fits_in ha hn h.1
    show m ≤ l.foldl flS (flS m c) ∧ l.foldl flS (flS m c) ≤ _
    have e : m ≤ flS m c ∧ flS m c ≤ m + (c.t - a) ∧ flS m c ≤ c.t := by
      unfold flS
      split
      · omega
      · rw [f5, wrap_in (by omega) (by omega)]; omega
    have := fl_bd s hn l c.t (flS m c) (by omega) f3 h.2 (by omega) e.2.2
    omega
theorem flight_bd {s : Sq} (hn : s.n < 9223372036854775808) (h : sChk s = 0) : 0 ≤ rFlight s ∧ rFlight s ≤ s.n - s.b := by
  obtain ⟨⟨c1, c2, c3, c4⟩, c5, -, c7⟩ := sChk_ok hn h
  unfold lastP at c2
  have := fl_bd s (by omega) s.fl s.b 0 c1 c3 c7 (by omega) c1
  unfold rFlight
  omega
theorem pick12 (s : Sq) (h : SqOk s) (now win limit : Int) (hw : -9223372036854775808 ≤ win ∧ win < 9223372036854775808) (hl : -9223372036854775808 ≤ limit ∧ limit < 9223372036854775808) :
    FnOK Try.prog 12 [.d (sqD s), .d (.int .i64 now), .d (.int .i64 win), .d (.int .i64 limit)] [] (.tup [.d (sqD (rPick s now win limit).1), .d (ckD (rPick s now win limit).2.1), .d (.str (rPick s now win limit).2.2)]) [] := by
  have k1 := ownH s h
  have k2 := tick34 now trivial trivial
  have k3 := chk28 s (by have := h.fl; omega) (by have := h.cm; omega)
  have k4 := flight24 s (by have := h.fl; omega)
  unfold rPick
  cases ht : tickB now
  · rw [if_pos (.inr rfl)]
    exact pick12a s now win limit k1 k2 ht trivial trivial trivial trivial trivial trivial trivial
  · by_cases he : sChk s = 0
    · rw [if_neg (by simp [he])]
      have hfb := flight_bd h.n.2 he
      obtain ⟨⟨c1, c2, c3, c4⟩, c5, c6, c7⟩ := sChk_ok h.n.2 he
      unfold lastP at c2
      rcases ckD_firstA 36 lostB s.fl (by have := h.fl; omega) (fun x _ => lost36 x trivial trivial) with ⟨g1, g2⟩ | ⟨i, c, g1, g2, g3, g4⟩
      · have e0 : s.fl.findIdx? lostB = none := by rw [List.findIdx?_eq_none_iff]; exact g1
        rw [e0]
        have e1 : IntKind.i64.wrap (IntKind.i64.wrap (s.b + (s.d.length : Int)) - s.n) = s.b + (s.d.length : Int) - s.n := by
          rw [wrap_in (x := s.b + (s.d.length : Int)) (by omega) (by omega)]
          exact wrap_in (by omega) (by omega)
        dsimp only
        by_cases hq : s.b + (s.d.length : Int) - s.n = 0 ∨ win ≤ rFlight s ∨ limit ≤ s.n
        · simp only [if_pos hq]
          exact pick12e s now win limit k1 k2 ht _ k3 he _ k4 g2 _ e1 hq trivial trivial trivial
        · simp only [if_neg hq]
          have e2 : IntKind.i64.wrap (win - rFlight s) = win - rFlight s := wrap_in (by omega) (by omega)
          have e3 : IntKind.i64.wrap (limit - s.n) = limit - s.n := wrap_in (by omega) (by omega)
          have hp : 0 < pkN s win limit ∧ pkN s win limit ≤ s.b + (s.d.length : Int) - s.n := by unfold pkN; omega
          have e4 : IntKind.i64.wrap (s.n + pkN s win limit) = s.n + pkN s win limit := wrap_in (by omega) (by omega)
          refine pick12f s now win limit k1 k2 ht _ k3 he _ k4 g2 _ e1 hq (by have := h.fl; omega) (pkN s win limit) _ (by rw [e2, e3]; rfl) e4 _ rfl _ ?_
          exact text39 _ _ (s.n - s.b) (s.n + pkN s win limit - s.b) (wrap_in (by show _ ≤ s.n - s.b; omega) (by show s.n - s.b < _; omega)) (wrap_in (by show _ ≤ s.n + pkN s win limit - s.b; omega) (by show s.n + pkN s win limit - s.b < _; omega)) (by omega) (by omega) (by show _ ≤ (s.d.length : Int); omega)
      · have hlt := get_lt g1
        have e0 : s.fl.findIdx? lostB = some i := by
          rw [List.findIdx?_eq_some_iff_getElem]
          refine ⟨hlt, by rw [(List.getElem?_eq_some_iff.1 g1).2]; exact g2, fun j hj => ?_⟩
          rw [g3 j _ hj (get_of (by omega))]
          simp
        rw [e0]
        obtain ⟨a', ha1, ha2⟩ := flB_mem s s.fl s.b c7 c (get_mem g1)
        obtain ⟨f1, f2, f3, f4, f5, -⟩ := fits_in (by omega) (by omega) ha2
        have e5 : IntKind.i64.wrap (rFlight s + (c.t - c.f)) = rFlight s + (c.t - c.f) := wrap_in (by omega) (by omega)
        dsimp only
        simp only [g1]
        by_cases hq : rFlight s = 0 ∨ rFlight s + (c.t - c.f) ≤ win
        · simp only [if_pos hq]
          exact pick12d s now win limit k1 k2 ht _ k3 he _ k4 i c g1 g4 true hq f5 e5 { s with fl := s.fl.set i (again c now) } (again c now) _ (repeat38 s i now c g1 (c.f - s.b) (c.t - s.b) (wrap_in (by omega) (by omega)) (wrap_in (by omega) (by omega)) (by omega) (by omega) (by omega))
        · simp only [if_neg hq]
          exact pick12c s now win limit k1 k2 ht _ k3 he _ k4 i c g1 g4 hq f5 e5 trivial trivial trivial
    · rw [if_pos (.inl he)]
      exact pick12b s now win limit k1 k2 ht _ k3 he trivial trivial trivial trivial trivial
end Go.Proofs.Ytfllhedkgeljaaa

/-
laws 11: what counts as lost, the oldest tick, whether two are one: both sides; states handed over.
-/
set_option linter.unusedSimpArgs false
set_option linter.unusedVariables false
namespace Go.Proofs.Ytfllhedkgeljaaa
open Sx Go.RowKit C06

def lose1 (c : Ck) : Ck := { c with l := true }
def rExpire (s : Sq) : Sq × Bool := ({ s with fl := s.fl.map lose1 }, s.fl.any (fun c => !c.l))
/-- Rows half turned. -/
def mapTo (f : Ck → Ck) (l : List Ck) (j : Nat) : List Ck := (l.take j).map f ++ l.drop j
theorem mapTo_zero (f : Ck → Ck) (l : List Ck) : mapTo f l 0 = l := by simp [mapTo]
theorem mapTo_len (f : Ck → Ck) (l : List Ck) (j : Nat) : (mapTo f l j).length = l.length := by simp [mapTo]; omega
theorem mapTo_end (f : Ck → Ck) (l : List Ck) : mapTo f l l.length = l.map f := by simp [mapTo]
theorem mapTo_get (f : Ck → Ck) {l : List Ck} {j : Nat} {c : Ck} (h : l[j]? = some c) : (mapTo f l j)[j]? = some c := by
  have hj := get_lt h
  unfold mapTo
  rw [List.getElem?_append_right (by simp; omega)]
  simp only [List.length_map, List.length_take, Nat.min_eq_left (Nat.le_of_lt hj), Nat.sub_self, List.getElem?_drop, Nat.add_zero]
  exact h
theorem mapTo_set (f : Ck → Ck) {l : List Ck} {j : Nat} {c : Ck} (h : l[j]? = some c) : (mapTo f l j).set j (f c) = mapTo f l (j + 1) := by
  have hj := get_lt h
  unfold mapTo
  rw [take_snoc h, List.map_append, List.set_append_right _ _ (by simp; omega)]
  simp only [List.length_map, List.length_take, Nat.min_eq_left (Nat.le_of_lt hj), Nat.sub_self]
  rw [List.drop_eq_getElem_cons hj]
  have : l[j] = c := (List.getElem?_eq_some_iff.1 h).2
  rw [this]
  simp
theorem any_snoc {f : Ck → Bool} {l : List Ck} {j : Nat} {c : Ck} (h : l[j]? = some c) : (l.take (j + 1)).any f = ((l.take j).any f || f c) := by
  rw [take_snoc h, List.any_append]
  simp
/-! ### Expire, the program's -/
def notL (c : Ck) : Bool := !c.l
def I14 (s : Sq) (q : Bool) (j : Nat) : St := ⟨[(2, .ptr 0 0), (4, .ptr 1 0), (5, .d (.bool q)), (11, .d (.int .i64 s.fl.length)), (12, .d (.int .i64 j))], [(0, .box [.d (.int .i64 0), .d (.str []), .d (.int .i64 0), .raw (.slice none 0 0), .raw (.slice none 0 0)]), (1, .box [.d (.int .i64 s.b), .d (.str s.d), .d (.int .i64 s.n), .own 2 5, .d (.sl (s.cm.map ivD))]), (2, .row 5 ((mapTo lose1 s.fl j).map ckD))]⟩
set_option maxRecDepth 100000 in
set_option maxHeartbeats 1000000 in
theorem r14 (s : Sq) (hl : s.fl.length < 1000000) (q q' : Bool) (j : Nat) (c : Ck) (hn : s.fl[j]? = some c) (hm : (mapTo lose1 s.fl j)[j]? = some c) (hs : (mapTo lose1 s.fl j).set j (lose1 c) = mapTo lose1 s.fl (j+1)) (hq : (q || !c.l) = q') : Runs Try.prog 0 (loopN Try.prog 14 0) (St.as (I14 s q j) 33) (.normal) (St.as (I14 s q' (j+1)) 33) := by
  refine round_wp (p := condP (decide ((↑j : Int) < (↑s.fl.length : Int))) (condP (q) ((D.bool q = D.bool true) ∧ ((D.bool true = D.bool q') ∧ (((0 : Int) ≤ (↑j : Int) ∧ (↑j : Int) < (↑(List.map ckD (mapTo lose1 s.fl j)).length : Int)) ∧ (((↑j : Int).toNat < (List.map ckD (mapTo lose1 s.fl j)).length) ∧ ((5 = 5) ∧ (((List.map ckD (mapTo lose1 s.fl j))[(↑j : Int).toNat]? = some (D.agg [D.int .i64 c.f, D.int .i64 c.t, D.int .i64 c.s, D.int .i64 c.r, D.bool c.l])) ∧ ((AV.ptr 0 0 = AV.ptr 0 0) ∧ ((AV.ptr 1 0 = AV.ptr 1 0) ∧ ((AV.d (.bool q') = AV.d (.bool q')) ∧ ((AV.d (.int .i64 (↑s.fl.length : Int)) = AV.d (.int .i64 (↑s.fl.length : Int))) ∧ ((AV.d (.int .i64 (IntKind.i64.wrap ((↑j : Int) + (1 : Int)))) = AV.d (.int .i64 (↑(j + 1) : Int))) ∧ ((Ob.box [AV.d (.int .i64 (0 : Int)), AV.d (.str []), AV.d (.int .i64 (0 : Int)), AV.raw (Value.slice none 0 0), AV.raw (Value.slice none 0 0)] = Ob.box [AV.d (.int .i64 (0 : Int)), AV.d (.str []), AV.d (.int .i64 (0 : Int)), AV.raw (Value.slice none 0 0), AV.raw (Value.slice none 0 0)]) ∧ ((Ob.box [AV.d (.int .i64 s.b), AV.d (.str s.d), AV.d (.int .i64 s.n), AV.own 2 5, AV.d (.sl (List.map ivD s.cm))] = Ob.box [AV.d (.int .i64 s.b), AV.d (.str s.d), AV.d (.int .i64 s.n), AV.own 2 5, AV.d (.sl (List.map ivD s.cm))]) ∧ ((Ob.row 5 ((List.map ckD (mapTo lose1 s.fl j)).set (↑j : Int).toNat (D.agg (List.take 4 [D.int .i64 c.f, D.int .i64 c.t, D.int .i64 c.s, D.int .i64 c.r, D.bool c.l] ++ [D.bool true] ++ List.drop 5 [D.int .i64 c.f, D.int .i64 c.t, D.int .i64 c.s, D.int .i64 c.r, D.bool c.l]))) = Ob.row 5 (List.map ckD (mapTo lose1 s.fl (j + 1)))) ∧ (True))))))))))))))) ((D.bool q = D.bool false) ∧ (((0 : Int) ≤ (↑j : Int) ∧ (↑j : Int) < (↑(List.map ckD (mapTo lose1 s.fl j)).length : Int)) ∧ (((↑j : Int).toNat < (List.map ckD (mapTo lose1 s.fl j)).length) ∧ ((5 = 5) ∧ (((List.map ckD (mapTo lose1 s.fl j))[(↑j : Int).toNat]? = some (D.agg [D.int .i64 c.f, D.int .i64 c.t, D.int .i64 c.s, D.int .i64 c.r, D.bool c.l])) ∧ (((D.bool !c.l) = D.bool q') ∧ (((0 : Int) ≤ (↑j : Int) ∧ (↑j : Int) < (↑(List.map ckD (mapTo lose1 s.fl j)).length : Int)) ∧ (((↑j : Int).toNat < (List.map ckD (mapTo lose1 s.fl j)).length) ∧ ((5 = 5) ∧ (((List.map ckD (mapTo lose1 s.fl j))[(↑j : Int).toNat]? = some (D.agg [D.int .i64 c.f, D.int .i64 c.t, D.int .i64 c.s, D.int .i64 c.r, D.bool c.l])) ∧ ((AV.ptr 0 0 = AV.ptr 0 0) ∧ ((AV.ptr 1 0 = AV.ptr 1 0) ∧ ((AV.d (.bool q') = AV.d (.bool q')) ∧ ((AV.d (.int .i64 (↑s.fl.length : Int)) = AV.d (.int .i64 (↑s.fl.length : Int))) ∧ ((AV.d (.int .i64 (IntKind.i64.wrap ((↑j : Int) + (1 : Int)))) = AV.d (.int .i64 (↑(j + 1) : Int))) ∧ ((Ob.box [AV.d (.int .i64 (0 : Int)), AV.d (.str []), AV.d (.int .i64 (0 : Int)), AV.raw (Value.slice none 0 0), AV.raw (Value.slice none 0 0)] = Ob.box [AV.d (.int .i64 (0 : Int)), AV.d (.str []), AV.d (.int .i64 (0 : Int)), AV.raw (Value.slice none 0 0), AV.raw (Value.slice none 0 0)]) ∧ ((Ob.box [AV.d (.int .i64 s.b), AV.d (.str s.d), AV.d (.int .i64 s.n), AV.own 2 5, AV.d (.sl (List.map ivD s.cm))] = Ob.box [AV.d (.int .i64 s.b), AV.d (.str s.d), AV.d (.int .i64 s.n), AV.own 2 5, AV.d (.sl (List.map ivD s.cm))]) ∧ ((Ob.row 5 ((List.map ckD (mapTo lose1 s.fl j)).set (↑j : Int).toNat (D.agg (List.take 4 [D.int .i64 c.f, D.int .i64 c.t, D.int .i64 c.s, D.int .i64 c.r, D.bool c.l] ++ [D.bool true] ++ List.drop 5 [D.int .i64 c.f, D.int .i64 c.t, D.int .i64 c.s, D.int .i64 c.r, D.bool c.l]))) = Ob.row 5 (List.map ckD (mapTo lose1 s.fl (j + 1)))) ∧ (True)))))))))))))))))))) (False)) (h := {els := [(21, .el (ckD c)), (29, .el (ckD c))], H := [(6, [(10, .val (.bool q'))])]}) (subs := []) (ws := []) (ρ := []) (by kernel_rfl) ?_
  have hj := get_lt hn
  have hi := inc_i64 (j := j) (by omega)
  have hln := mapTo_len lose1 s.fl j
  have hsD : ((mapTo lose1 s.fl j).map ckD).set j (ckD (lose1 c)) = (mapTo lose1 s.fl (j+1)).map ckD := by rw [← List.map_set, hs]
  try simp only [hi]
  refine condP_t (by rw [decide_eq_true_eq]; omega) ?_
  simp only [Int.toNat_natCast]
  repeat' (with_reducible first | exact True.intro | apply And.intro | (first | apply zA | apply zB | apply zC | apply zD | apply zE | apply zF | apply zG) <;> intro)
  all_goals first | exact el_map hm rfl | exact hsD | exact congrArg (Ob.row 5) hsD | rfl | omega | (simp [hln]; omega) | (refine congrArg D.bool ?_; rw [← hq]; simp_all; done) | (subst hq; simp_all; done) | skip

set_option maxRecDepth 100000 in
set_option maxHeartbeats 1000000 in
theorem q14 (s : Sq) (q : Bool) : Runs Try.prog 0 (loopN Try.prog 14 0) (St.as (I14 s q s.fl.length) 33) (.exit 0) (St.as (I14 s q s.fl.length) 33) := by
  refine round_wp (p := condP (decide ((↑s.fl.length : Int) < (↑s.fl.length : Int))) (condP (q) ((D.bool q = D.bool true) ∧ (False)) (False)) ((AV.ptr 0 0 = AV.ptr 0 0) ∧ ((AV.ptr 1 0 = AV.ptr 1 0) ∧ ((AV.d (.bool q) = AV.d (.bool q)) ∧ ((AV.d (.int .i64 (↑s.fl.length : Int)) = AV.d (.int .i64 (↑s.fl.length : Int))) ∧ ((AV.d (.int .i64 (↑s.fl.length : Int)) = AV.d (.int .i64 (↑s.fl.length : Int))) ∧ ((Ob.box [AV.d (.int .i64 (0 : Int)), AV.d (.str []), AV.d (.int .i64 (0 : Int)), AV.raw (Value.slice none 0 0), AV.raw (Value.slice none 0 0)] = Ob.box [AV.d (.int .i64 (0 : Int)), AV.d (.str []), AV.d (.int .i64 (0 : Int)), AV.raw (Value.slice none 0 0), AV.raw (Value.slice none 0 0)]) ∧ ((Ob.box [AV.d (.int .i64 s.b), AV.d (.str s.d), AV.d (.int .i64 s.n), AV.own 2 5, AV.d (.sl (List.map ivD s.cm))] = Ob.box [AV.d (.int .i64 s.b), AV.d (.str s.d), AV.d (.int .i64 s.n), AV.own 2 5, AV.d (.sl (List.map ivD s.cm))]) ∧ ((Ob.row 5 (List.map ckD (mapTo lose1 s.fl s.fl.length)) = Ob.row 5 (List.map ckD (mapTo lose1 s.fl s.fl.length))) ∧ (True)))))))))) (h := {}) (subs := []) (ws := []) (ρ := []) (by kernel_rfl) ?_
  repeat' (with_reducible first | exact True.intro | apply And.intro | (first | apply zA | apply zB | apply zC | apply zD | apply zE | apply zF | apply zG) <;> intro)
  all_goals first | rfl | omega

set_option maxRecDepth 100000 in
set_option maxHeartbeats 1000000 in
theorem exp14 (s : Sq) (q : Bool) (k1 : FnOK Try.prog 33 [.d (sqD s)] [] (oAV s) [.row 5 (s.fl.map ckD)]) (hL : Loops Try.prog 0 (loopN Try.prog 14 0) ((I14 s false 0).as 33) (.exit 0) ((I14 s q s.fl.length).as 33)) : FnOK Try.prog 14 ([.d (sqD s)]) ([]) (.tup [.d (sqD { s with fl := s.fl.map lose1 }), .d (.bool q)]) ([]) := by
  refine fnOK_wp (p := (FnOK Try.prog 33 [AV.d (.agg [D.int .i64 s.b, D.str s.d, D.int .i64 s.n, D.sl (List.map ckD s.fl), D.sl (List.map ivD s.cm)])] [] (AV.agg [AV.d (.int .i64 s.b), AV.d (.str s.d), AV.d (.int .i64 s.n), AV.own 0 5, AV.d (.sl (List.map ivD s.cm))]) [Ob.row 5 (List.map ckD s.fl)]) ∧ ((AV.ptr 1016 0 = AV.ptr 1016 0) ∧ ((AV.ptr 1032 0 = AV.ptr 1032 0) ∧ ((AV.d (.bool false) = AV.d (.bool false)) ∧ ((AV.d (.int .i64 (↑(List.map ckD s.fl).length : Int)) = AV.d (.int .i64 (↑s.fl.length : Int))) ∧ ((AV.d (.int .i64 (0 : Int)) = AV.d (.int .i64 (0 : Int))) ∧ ((Ob.box [AV.d (.int .i64 (0 : Int)), AV.d (.str []), AV.d (.int .i64 (0 : Int)), AV.raw (Value.slice none 0 0), AV.raw (Value.slice none 0 0)] = Ob.box [AV.d (.int .i64 (0 : Int)), AV.d (.str []), AV.d (.int .i64 (0 : Int)), AV.raw (Value.slice none 0 0), AV.raw (Value.slice none 0 0)]) ∧ ((Ob.box [AV.d (.int .i64 s.b), AV.d (.str s.d), AV.d (.int .i64 s.n), AV.own 1064 5, AV.d (.sl (List.map ivD s.cm))] = Ob.box [AV.d (.int .i64 s.b), AV.d (.str s.d), AV.d (.int .i64 s.n), AV.own 1064 5, AV.d (.sl (List.map ivD s.cm))]) ∧ ((Ob.row 5 (List.map ckD s.fl) = Ob.row 5 (List.map ckD (mapTo lose1 s.fl 0))) ∧ ((LoopsS Try.prog 0 (loopN Try.prog 14 0) (I14 s false 0) (Exit.exit 0) (I14 s q s.fl.length) 33) ∧ ((AV.tup [AV.d (.agg [D.int .i64 s.b, D.str s.d, D.int .i64 s.n, D.sl (List.map ckD (mapTo lose1 s.fl s.fl.length)), D.sl (List.map ivD s.cm)]), AV.d (.bool q)] = AV.tup [AV.d (.agg [D.int .i64 (Sq.mk s.b s.d s.n (List.map lose1 s.fl) s.cm).b, D.str (Sq.mk s.b s.d s.n (List.map lose1 s.fl) s.cm).d, D.int .i64 (Sq.mk s.b s.d s.n (List.map lose1 s.fl) s.cm).n, D.sl (List.map ckD (Sq.mk s.b s.d s.n (List.map lose1 s.fl) s.cm).fl), D.sl (List.map ivD (Sq.mk s.b s.d s.n (List.map lose1 s.fl) s.cm).cm)]), AV.d (.bool q)]) ∧ (True)))))))))))) (h := {H := [(1, [(1, .call [] (oAV s) [.row 5 (s.fl.map ckD)])])]}) (subs := [⟨[], [], I14 s false 0, .exit 0, I14 s q s.fl.length⟩]) (ws := []) (ρ := []) (by kernel_rfl) ?_
  have h0 := mapTo_zero lose1 s.fl
  have h1 := mapTo_end lose1 s.fl
  try simp only [List.length_map]
  repeat' (with_reducible first | exact True.intro | apply And.intro | (first | apply zA | apply zB | apply zC | apply zD | apply zE | apply zF | apply zG) <;> intro)
  all_goals first | exact k1 | exact hL | rfl | (rw [h0]; done) | (rw [h1]; done) | (rw [h0]; rfl) | (rw [h1]; rfl) | (rw [List.length_map]; done) | skip

theorem expire14 (s : Sq) (h : SqOk s) : FnOK Try.prog 14 [.d (sqD s)] [] (.tup [.d (sqD (rExpire s).1), .d (.bool (rExpire s).2)]) [] := by
  have hf := h.fl
  refine exp14 s _ (ownH s h) ?_
  have hL := loops_n (P := Try.prog) (k := 0) (c := loopN Try.prog 14 0) (e := .exit 0) (I := fun j => (I14 s ((s.fl.take j).any notL) j).as 33) (by simp) s.fl.length 0 (by omega) (fun j _ hj => by
    have hn := get_of hj
    show Runs _ _ _ _ _ ((I14 s ((s.fl.take (j + 1)).any notL) (j + 1)).as _)
    exact r14 s (by omega) _ _ j _ hn (mapTo_get lose1 hn) (mapTo_set lose1 hn) (any_snoc hn).symm) (by simp only [List.take_length]; exact q14 s _)
  exact hL
/-! ### The oldest tick -/
def oldS (p : Int × Bool) (c : Ck) : Int × Bool := if c.l = false ∧ (p.2 = false ∨ c.s < p.1) then (c.s, true) else p
def rOldest (s : Sq) : Int × Bool := s.fl.foldl oldS (0, false)
def I16 (s : Sq) (p : Int × Bool) (j : Nat) : St := ⟨[(4, .d (.int .i64 p.1)), (5, .d (.bool p.2)), (9, .d (.sl (s.fl.map ckD))), (10, .d (.int .i64 s.fl.length)), (11, .d (.int .i64 j))], []⟩
set_option maxRecDepth 100000 in
set_option maxHeartbeats 1000000 in
theorem r16a (s : Sq) (hl : s.fl.length < 1000000) (u : Int) (q : Bool) (j : Nat) (c : Ck) (hn : s.fl[j]? = some c) (h1 : c.l = true) (h2 : True) : Runs Try.prog 0 (loopN Try.prog 16 0) (St.as (I16 s (u, q) j) 33) (.normal) (St.as (I16 s (u, q) (j+1)) 33) := by
  refine round_wp (p := condP (decide ((↑j : Int) < (↑s.fl.length : Int))) (((0 : Int) ≤ (↑j : Int)) ∧ (((List.map ckD s.fl)[(↑j : Int).toNat]? = some (D.agg [D.int .i64 c.f, D.int .i64 c.t, D.int .i64 c.s, D.int .i64 c.r, D.bool c.l])) ∧ (((D.bool !c.l) = D.bool false) ∧ ((AV.d (.int .i64 (u, q).fst) = AV.d (.int .i64 (u, q).fst)) ∧ ((AV.d (.bool (u, q).snd) = AV.d (.bool (u, q).snd)) ∧ ((AV.d (.sl (List.map ckD s.fl)) = AV.d (.sl (List.map ckD s.fl))) ∧ ((AV.d (.int .i64 (↑s.fl.length : Int)) = AV.d (.int .i64 (↑s.fl.length : Int))) ∧ ((AV.d (.int .i64 (IntKind.i64.wrap ((↑j : Int) + (1 : Int)))) = AV.d (.int .i64 (↑(j + 1) : Int))) ∧ (True))))))))) (False)) (h := {els := [(9, .el (ckD c))], H := [(5, [(3, .val (.bool false))])]}) (subs := []) (ws := []) (ρ := []) (by kernel_rfl) ?_
  have hj := get_lt hn
  have hi := inc_i64 (j := j) (by omega)
  try simp only [hi, List.length_map]
  refine condP_t (by rw [decide_eq_true_eq]; omega) ?_
  repeat' (with_reducible first | exact True.intro | apply And.intro | (first | apply zA | apply zB | apply zC | apply zD | apply zE | apply zF | apply zG) <;> intro)
  all_goals first | exact el_map hn rfl | rfl | omega | (refine congrArg D.bool ?_; simp [h1]; done) | (refine congrArg D.bool ?_; simp [h2]; done) | exact dyes (by omega) | exact dno (by omega) | skip

set_option maxRecDepth 100000 in
set_option maxHeartbeats 1000000 in
theorem r16b (s : Sq) (hl : s.fl.length < 1000000) (u : Int) (q : Bool) (j : Nat) (c : Ck) (hn : s.fl[j]? = some c) (h1 : c.l = false) (h2 : q = false) : Runs Try.prog 0 (loopN Try.prog 16 0) (St.as (I16 s (u, q) j) 33) (.normal) (St.as (I16 s (c.s, true) (j+1)) 33) := by
  refine round_wp (p := condP (decide ((↑j : Int) < (↑s.fl.length : Int))) (((0 : Int) ≤ (↑j : Int)) ∧ (((List.map ckD s.fl)[(↑j : Int).toNat]? = some (D.agg [D.int .i64 c.f, D.int .i64 c.t, D.int .i64 c.s, D.int .i64 c.r, D.bool c.l])) ∧ (((D.bool !c.l) = D.bool true) ∧ (((D.bool !(u, q).snd) = D.bool true) ∧ ((AV.d (.int .i64 c.s) = AV.d (.int .i64 (c.s, true).fst)) ∧ ((AV.d (.bool true) = AV.d (.bool true)) ∧ ((AV.d (.sl (List.map ckD s.fl)) = AV.d (.sl (List.map ckD s.fl))) ∧ ((AV.d (.int .i64 (↑s.fl.length : Int)) = AV.d (.int .i64 (↑s.fl.length : Int))) ∧ ((AV.d (.int .i64 (IntKind.i64.wrap ((↑j : Int) + (1 : Int)))) = AV.d (.int .i64 (↑(j + 1) : Int))) ∧ (True)))))))))) (False)) (h := {els := [(9, .el (ckD c))], H := [(5, [(3, .val (.bool true)), (6, .val (.bool true))])]}) (subs := []) (ws := []) (ρ := []) (by kernel_rfl) ?_
  have hj := get_lt hn
  have hi := inc_i64 (j := j) (by omega)
  try simp only [hi, List.length_map]
  refine condP_t (by rw [decide_eq_true_eq]; omega) ?_
  repeat' (with_reducible first | exact True.intro | apply And.intro | (first | apply zA | apply zB | apply zC | apply zD | apply zE | apply zF | apply zG) <;> intro)
  all_goals first | exact el_map hn rfl | rfl | omega | (refine congrArg D.bool ?_; simp [h1]; done) | (refine congrArg D.bool ?_; simp [h2]; done) | exact dyes (by omega) | exact dno (by omega) | skip

set_option maxRecDepth 100000 in
set_option maxHeartbeats 1000000 in
theorem r16c (s : Sq) (hl : s.fl.length < 1000000) (u : Int) (q : Bool) (j : Nat) (c : Ck) (hn : s.fl[j]? = some c) (h1 : c.l = false) (h2 : q = true) (h3 : c.s < u) : Runs Try.prog 0 (loopN Try.prog 16 0) (St.as (I16 s (u, q) j) 33) (.normal) (St.as (I16 s (c.s, true) (j+1)) 33) := by
  refine round_wp (p := condP (decide ((↑j : Int) < (↑s.fl.length : Int))) (((0 : Int) ≤ (↑j : Int)) ∧ (((List.map ckD s.fl)[(↑j : Int).toNat]? = some (D.agg [D.int .i64 c.f, D.int .i64 c.t, D.int .i64 c.s, D.int .i64 c.r, D.bool c.l])) ∧ (((D.bool !c.l) = D.bool true) ∧ (((D.bool !(u, q).snd) = D.bool false) ∧ ((D.bool (decide (c.s < (u, q).fst)) = D.bool true) ∧ ((AV.d (.int .i64 c.s) = AV.d (.int .i64 (c.s, true).fst)) ∧ ((AV.d (.bool true) = AV.d (.bool true)) ∧ ((AV.d (.sl (List.map ckD s.fl)) = AV.d (.sl (List.map ckD s.fl))) ∧ ((AV.d (.int .i64 (↑s.fl.length : Int)) = AV.d (.int .i64 (↑s.fl.length : Int))) ∧ ((AV.d (.int .i64 (IntKind.i64.wrap ((↑j : Int) + (1 : Int)))) = AV.d (.int .i64 (↑(j + 1) : Int))) ∧ (True))))))))))) (False)) (h := {els := [(9, .el (ckD c))], H := [(5, [(3, .val (.bool true)), (6, .val (.bool false)), (10, .val (.bool true))])]}) (subs := []) (ws := []) (ρ := []) (by kernel_rfl) ?_
  have hj := get_lt hn
  have hi := inc_i64 (j := j) (by omega)
  try simp only [hi, List.length_map]
  refine condP_t (by rw [decide_eq_true_eq]; omega) ?_
  repeat' (with_reducible first | exact True.intro | apply And.intro | (first | apply zA | apply zB | apply zC | apply zD | apply zE | apply zF | apply zG) <;> intro)
  all_goals first | exact el_map hn rfl | rfl | omega | (refine congrArg D.bool ?_; simp [h1]; done) | (refine congrArg D.bool ?_; simp [h2]; done) | exact dyes (by omega) | exact dno (by omega) | skip

set_option maxRecDepth 100000 in
set_option maxHeartbeats 1000000 in
theorem r16d (s : Sq) (hl : s.fl.length < 1000000) (u : Int) (q : Bool) (j : Nat) (c : Ck) (hn : s.fl[j]? = some c) (h1 : c.l = false) (h2 : q = true) (h3 : ¬c.s < u) : Runs Try.prog 0 (loopN Try.prog 16 0) (St.as (I16 s (u, q) j) 33) (.normal) (St.as (I16 s (u, q) (j+1)) 33) := by
  refine round_wp (p := condP (decide ((↑j : Int) < (↑s.fl.length : Int))) (((0 : Int) ≤ (↑j : Int)) ∧ (((List.map ckD s.fl)[(↑j : Int).toNat]? = some (D.agg [D.int .i64 c.f, D.int .i64 c.t, D.int .i64 c.s, D.int .i64 c.r, D.bool c.l])) ∧ (((D.bool !c.l) = D.bool true) ∧ (((D.bool !(u, q).snd) = D.bool false) ∧ ((D.bool (decide (c.s < (u, q).fst)) = D.bool false) ∧ ((AV.d (.int .i64 (u, q).fst) = AV.d (.int .i64 (u, q).fst)) ∧ ((AV.d (.bool (u, q).snd) = AV.d (.bool (u, q).snd)) ∧ ((AV.d (.sl (List.map ckD s.fl)) = AV.d (.sl (List.map ckD s.fl))) ∧ ((AV.d (.int .i64 (↑s.fl.length : Int)) = AV.d (.int .i64 (↑s.fl.length : Int))) ∧ ((AV.d (.int .i64 (IntKind.i64.wrap ((↑j : Int) + (1 : Int)))) = AV.d (.int .i64 (↑(j + 1) : Int))) ∧ (True))))))))))) (False)) (h := {els := [(9, .el (ckD c))], H := [(5, [(3, .val (.bool true)), (6, .val (.bool false)), (10, .val (.bool false))])]}) (subs := []) (ws := []) (ρ := []) (by kernel_rfl) ?_
  have hj := get_lt hn
  have hi := inc_i64 (j := j) (by omega)
  try simp only [hi, List.length_map]
  refine condP_t (by rw [decide_eq_true_eq]; omega) ?_
  repeat' (with_reducible first | exact True.intro | apply And.intro | (first | apply zA | apply zB | apply zC | apply zD | apply zE | apply zF | apply zG) <;> intro)
  all_goals first | exact el_map hn rfl | rfl | omega | (refine congrArg D.bool ?_; simp [h1]; done) | (refine congrArg D.bool ?_; simp [h2]; done) | exact dyes (by omega) | exact dno (by omega) | skip

set_option maxRecDepth 100000 in
set_option maxHeartbeats 1000000 in
theorem q16 (s : Sq) (p : Int × Bool) : Runs Try.prog 0 (loopN Try.prog 16 0) (St.as (I16 s p s.fl.length) 33) (.exit 0) (St.as (I16 s p s.fl.length) 33) := by
  refine round_wp (p := condP (decide ((↑s.fl.length : Int) < (↑s.fl.length : Int))) (False) ((AV.d (.int .i64 p.fst) = AV.d (.int .i64 p.fst)) ∧ ((AV.d (.bool p.snd) = AV.d (.bool p.snd)) ∧ ((AV.d (.sl (List.map ckD s.fl)) = AV.d (.sl (List.map ckD s.fl))) ∧ ((AV.d (.int .i64 (↑s.fl.length : Int)) = AV.d (.int .i64 (↑s.fl.length : Int))) ∧ ((AV.d (.int .i64 (↑s.fl.length : Int)) = AV.d (.int .i64 (↑s.fl.length : Int))) ∧ (True))))))) (h := {}) (subs := []) (ws := []) (ρ := []) (by kernel_rfl) ?_
  repeat' (with_reducible first | exact True.intro | apply And.intro | (first | apply zA | apply zB | apply zC | apply zD | apply zE | apply zF | apply zG) <;> intro)
  all_goals first | rfl | omega

set_option maxRecDepth 100000 in
set_option maxHeartbeats 1000000 in
theorem old16 (s : Sq) (p : Int × Bool) (hL : Loops Try.prog 0 (loopN Try.prog 16 0) ((I16 s (0, false) 0).as 33) (.exit 0) ((I16 s p s.fl.length).as 33)) : FnOK Try.prog 16 ([.d (sqD s)]) ([]) (.tup [.d (.int .i64 p.1), .d (.bool p.2)]) ([]) := by
  refine fnOK_wp (p := (AV.d (.int .i64 (0 : Int)) = AV.d (.int .i64 (0 : Int))) ∧ ((AV.d (.bool false) = AV.d (.bool false)) ∧ ((AV.d (.sl (List.map ckD s.fl)) = AV.d (.sl (List.map ckD s.fl))) ∧ ((AV.d (.int .i64 (↑(List.map ckD s.fl).length : Int)) = AV.d (.int .i64 (↑s.fl.length : Int))) ∧ ((AV.d (.int .i64 (0 : Int)) = AV.d (.int .i64 (0 : Int))) ∧ ((LoopsS Try.prog 0 (loopN Try.prog 16 0) (I16 s ((0 : Int), false) 0) (Exit.exit 0) (I16 s p s.fl.length) 33) ∧ ((AV.tup [AV.d (.int .i64 p.fst), AV.d (.bool p.snd)] = AV.tup [AV.d (.int .i64 p.fst), AV.d (.bool p.snd)]) ∧ (True)))))))) (h := {}) (subs := [⟨[], [], I16 s (0, false) 0, .exit 0, I16 s p s.fl.length⟩]) (ws := []) (ρ := []) (by kernel_rfl) ?_
  simp only [List.length_map]
  repeat' (with_reducible first | exact True.intro | apply And.intro | (first | apply zA | apply zB | apply zC | apply zD | apply zE | apply zF | apply zG) <;> intro)
  all_goals first | exact hL | rfl | skip

theorem oldS_cases (u : Int) (q : Bool) (c : Ck) : (c.l = true ∧ oldS (u, q) c = (u, q)) ∨ (c.l = false ∧ q = false ∧ oldS (u, q) c = (c.s, true)) ∨ (c.l = false ∧ q = true ∧ c.s < u ∧ oldS (u, q) c = (c.s, true)) ∨ (c.l = false ∧ q = true ∧ ¬c.s < u ∧ oldS (u, q) c = (u, q)) := by
  unfold oldS
  cases h1 : c.l
  · cases q
    · exact .inr (.inl ⟨rfl, rfl, by simp⟩)
    · by_cases h : c.s < u
      · exact .inr (.inr (.inl ⟨rfl, rfl, h, by simp [h]⟩))
      · exact .inr (.inr (.inr ⟨rfl, rfl, h, by simp [h]⟩))
  · exact .inl ⟨rfl, by simp⟩
theorem step16 (s : Sq) (hl : s.fl.length < 1000000) (p : Int × Bool) (j : Nat) (c : Ck) (hn : s.fl[j]? = some c) : Runs Try.prog 0 (loopN Try.prog 16 0) ((I16 s p j).as 33) .normal ((I16 s (oldS p c) (j+1)).as 33) := by
  obtain ⟨u, q⟩ := p
  rcases oldS_cases u q c with ⟨h1, e⟩ | ⟨h1, h2, e⟩ | ⟨h1, h2, h3, e⟩ | ⟨h1, h2, h3, e⟩ <;> rw [e]
  · exact r16a s hl u q j c hn h1 trivial
  · exact r16b s hl u q j c hn h1 h2
  · exact r16c s hl u q j c hn h1 h2 h3
  · exact r16d s hl u q j c hn h1 h2 h3
theorem oldest16 (s : Sq) (hl : s.fl.length < 1000000) : FnOK Try.prog 16 [.d (sqD s)] [] (.tup [.d (.int .i64 (rOldest s).1), .d (.bool (rOldest s).2)]) [] := by
  have hL := loops_n (P := Try.prog) (k := 0) (c := loopN Try.prog 16 0) (e := .exit 0) (I := fun j => (I16 s ((s.fl.take j).foldl oldS (0, false)) j).as 33) (by simp) s.fl.length 0 (by omega) (fun j _ hj => by
    have hn := get_of hj
    show Runs _ _ _ _ _ ((I16 s ((s.fl.take (j + 1)).foldl oldS (0, false)) (j + 1)).as _)
    rw [take_snoc hn, List.foldl_append]
    exact step16 s hl _ j _ hn) (by simp only [List.take_length]; exact q16 s _)
  exact old16 s _ hL
/-! ### Whether two are one -/
theorem sq_dec (a b : Sq) : decide (a = b) = ((a.b == b.b) && ((a.d == b.d) && ((a.n == b.n) && (decide (a.fl = b.fl) && decide (a.cm = b.cm))))) := by
  obtain ⟨a1, a2, a3, a4, a5⟩ := a
  obtain ⟨b1, b2, b3, b4, b5⟩ := b
  rw [Bool.eq_iff_iff]
  simp only [decide_eq_true_eq, Sq.mk.injEq, Bool.and_eq_true, beq_iff_eq]
set_option maxRecDepth 100000 in
set_option maxHeartbeats 1000000 in
theorem same29w (a b : Sq) (k1 : FnOK Try.prog 63 [.d (.sl (a.fl.map ckD)), .d (.sl (b.fl.map ckD))] [] (.d (.bool (decide (a.fl = b.fl)))) []) (k2 : FnOK Try.prog 64 [.d (.sl (a.cm.map ivD)), .d (.sl (b.cm.map ivD))] [] (.d (.bool (decide (a.cm = b.cm)))) []) : FnOK Try.prog 29 ([.d (sqD a), .d (sqD b)]) ([]) (.d (.bool ((a.b == b.b) && ((a.d == b.d) && ((a.n == b.n) && (decide (a.fl = b.fl) && decide (a.cm = b.cm))))))) ([]) := by
  refine fnOK_wp (p := condP (a.b == b.b) (condP (a.d == b.d) (condP (a.n == b.n) (condP (decide (a.fl = b.fl)) ((D.bool (a.b == b.b) = D.bool true) ∧ ((D.bool (a.d == b.d) = D.bool true) ∧ ((D.bool (a.n == b.n) = D.bool true) ∧ ((FnOK Try.prog 63 [AV.d (.sl (List.map ckD a.fl)), AV.d (.sl (List.map ckD b.fl))] [] (AV.d (.bool (decide (a.fl = b.fl)))) []) ∧ ((D.bool (decide (a.fl = b.fl)) = D.bool true) ∧ ((FnOK Try.prog 64 [AV.d (.sl (List.map ivD a.cm)), AV.d (.sl (List.map ivD b.cm))] [] (AV.d (.bool (decide (a.cm = b.cm)))) []) ∧ ((AV.d (.bool (decide (a.cm = b.cm))) = AV.d (.bool (a.b == b.b && (a.d == b.d && (a.n == b.n && (decide (a.fl = b.fl) && decide (a.cm = b.cm))))))) ∧ (True)))))))) ((D.bool (a.b == b.b) = D.bool true) ∧ ((D.bool (a.d == b.d) = D.bool true) ∧ ((D.bool (a.n == b.n) = D.bool true) ∧ ((FnOK Try.prog 63 [AV.d (.sl (List.map ckD a.fl)), AV.d (.sl (List.map ckD b.fl))] [] (AV.d (.bool (decide (a.fl = b.fl)))) []) ∧ ((D.bool (decide (a.fl = b.fl)) = D.bool false) ∧ ((AV.d (.bool false) = AV.d (.bool (a.b == b.b && (a.d == b.d && (a.n == b.n && (decide (a.fl = b.fl) && decide (a.cm = b.cm))))))) ∧ (True)))))))) ((D.bool (a.b == b.b) = D.bool true) ∧ ((D.bool (a.d == b.d) = D.bool true) ∧ ((D.bool (a.n == b.n) = D.bool false) ∧ ((D.bool false = D.bool false) ∧ ((AV.d (.bool false) = AV.d (.bool (a.b == b.b && (a.d == b.d && (a.n == b.n && (decide (a.fl = b.fl) && decide (a.cm = b.cm))))))) ∧ (True))))))) ((D.bool (a.b == b.b) = D.bool true) ∧ ((D.bool (a.d == b.d) = D.bool false) ∧ ((D.bool false = D.bool false) ∧ ((D.bool false = D.bool false) ∧ ((AV.d (.bool false) = AV.d (.bool (a.b == b.b && (a.d == b.d && (a.n == b.n && (decide (a.fl = b.fl) && decide (a.cm = b.cm))))))) ∧ (True))))))) ((D.bool (a.b == b.b) = D.bool false) ∧ ((D.bool false = D.bool false) ∧ ((D.bool false = D.bool false) ∧ ((D.bool false = D.bool false) ∧ ((AV.d (.bool false) = AV.d (.bool (a.b == b.b && (a.d == b.d && (a.n == b.n && (decide (a.fl = b.fl) && decide (a.cm = b.cm))))))) ∧ (True))))))) (h := {H := [(1, [(24, .call [] (.d (.bool (decide (a.fl = b.fl)))) []), (31, .call [] (.d (.bool (decide (a.cm = b.cm)))) [])])]}) (subs := []) (ws := []) (ρ := []) (by kernel_rfl) ?_
  repeat' (with_reducible first | exact True.intro | apply And.intro | (first | apply zA | apply zB | apply zC | apply zD | apply zE | apply zF | apply zG) <;> intro)
  all_goals first | exact k1 | exact k2 | rfl | (simp_all; done) | skip

theorem same29 (a b : Sq) (ha : SqOk a) : FnOK Try.prog 29 [.d (sqD a), .d (sqD b)] [] (.d (.bool (decide (a = b)))) [] := by
  rw [sq_dec]
  exact same29w a b (ckD_equal a.fl b.fl (by have := ha.fl; omega)) (same23 a.cm b.cm _ (ivD_equal a.cm b.cm (by have := ha.cm; omega)))
end Go.Proofs.Ytfllhedkgeljaaa

/-
laws 11: the document's: whether a state may be, how much is under way, writing.
-/
set_option linter.unusedSimpArgs false
set_option linter.unusedVariables false
namespace Go.Proofs.Ytfllhedkgeljaaa
open Sx Go.RowKit C06

/-! ### Whether a place came -/
def metB (c : Ck) (l : List Iv) : Bool := decide (((dMeet [ckI c] l).length : Int) > 0)
set_option maxRecDepth 100000 in
set_option maxHeartbeats 1000000 in
theorem meets54w (c : Ck) (l m : List Iv) (k1 : FnOK Try.prog 80 [.d (.sl ([ckI c].map ivD)), .d (.sl (l.map ivD))] [] (.d (.sl (m.map ivD))) []) : FnOK Try.prog 54 ([.d (ckD c), .d (.sl (l.map ivD))]) ([]) (.d (.bool (decide ((m.length : Int) > 0)))) ([]) := by
  refine fnOK_wp (p := (FnOK Try.prog 80 [AV.d (.sl [D.agg [D.int .i64 c.f, D.int .i64 c.t]]), AV.d (.sl (List.map ivD l))] [] (AV.d (.sl (List.map ivD m))) []) ∧ ((AV.d (.bool (decide ((↑(List.map ivD m).length : Int) > (0 : Int)))) = AV.d (.bool (decide ((↑m.length : Int) > (0 : Int))))) ∧ (True))) (h := {mid := [(1, [(7, [.freeze 1080])])], H := [(1, [(7, .call [] (.d (.sl (m.map ivD))) [])])]}) (subs := []) (ws := []) (ρ := []) (by kernel_rfl) ?_
  simp only [List.length_map]
  repeat' (with_reducible first | exact True.intro | apply And.intro | (first | apply zA | apply zB | apply zC | apply zD | apply zE | apply zF | apply zG) <;> intro)
  all_goals first | exact k1 | rfl | skip

theorem meets54 (c : Ck) (l : List Iv) (hl : l.length < 100000) : FnOK Try.prog 54 [.d (ckD c), .d (.sl (l.map ivD))] [] (.d (.bool (metB c l))) [] := meets54w c l _ (meet18 [ckI c] l (by simp) hl)
/-! ### A chunk's place -/
def rightB (s : Sq) (c : Ck) (a : Int) : Bool := !offB s c a && (timB c && !metB c s.cm)
set_option maxRecDepth 100000 in
set_option maxHeartbeats 1000000 in
theorem right60a (s : Sq) (c : Ck) (a : Int) (q : Bool) (k1 : FnOK Try.prog 54 [.d (ckD c), .d (.sl (s.cm.map ivD))] [] (.d (.bool q)) []) (h : c.f < a ∨ c.t > s.n ∨ c.f ≥ c.t ∨ cSz c > 48) : FnOK Try.prog 60 ([.d (ckD c), .d (sqD s), .d (.int .i64 a)]) ([]) (.d (.bool false)) ([]) := by
  refine fnOK_wp (p := condP (decide (c.f ≥ a)) (condP (decide (c.t > c.f)) (condP (decide (c.t ≤ s.n)) ((D.bool (decide (c.f ≥ a)) = D.bool true) ∧ ((D.bool (decide (c.t > c.f)) = D.bool true) ∧ ((D.bool (decide (c.t ≤ s.n)) = D.bool true) ∧ ((D.bool (decide (IntKind.i64.wrap (c.t - c.f) ≤ (48 : Int))) = D.bool false) ∧ ((D.bool false = D.bool false) ∧ ((D.bool false = D.bool false) ∧ ((D.bool false = D.bool false) ∧ ((D.bool false = D.bool false) ∧ ((AV.d (.bool false) = AV.d (.bool false)) ∧ (True)))))))))) ((D.bool (decide (c.f ≥ a)) = D.bool true) ∧ ((D.bool (decide (c.t > c.f)) = D.bool true) ∧ ((D.bool (decide (c.t ≤ s.n)) = D.bool false) ∧ ((D.bool false = D.bool false) ∧ ((D.bool false = D.bool false) ∧ ((D.bool false = D.bool false) ∧ ((D.bool false = D.bool false) ∧ ((D.bool false = D.bool false) ∧ ((AV.d (.bool false) = AV.d (.bool false)) ∧ (True))))))))))) ((D.bool (decide (c.f ≥ a)) = D.bool true) ∧ ((D.bool (decide (c.t > c.f)) = D.bool false) ∧ ((D.bool false = D.bool false) ∧ ((D.bool false = D.bool false) ∧ ((D.bool false = D.bool false) ∧ ((D.bool false = D.bool false) ∧ ((D.bool false = D.bool false) ∧ ((D.bool false = D.bool false) ∧ ((AV.d (.bool false) = AV.d (.bool false)) ∧ (True))))))))))) ((D.bool (decide (c.f ≥ a)) = D.bool false) ∧ ((D.bool false = D.bool false) ∧ ((D.bool false = D.bool false) ∧ ((D.bool false = D.bool false) ∧ ((D.bool false = D.bool false) ∧ ((D.bool false = D.bool false) ∧ ((D.bool false = D.bool false) ∧ ((D.bool false = D.bool false) ∧ ((AV.d (.bool false) = AV.d (.bool false)) ∧ (True))))))))))) (h := {H := [(1, [(50, .call [] (.d (.bool q)) []), (26, .val (.bool false))])]}) (subs := []) (ws := []) (ρ := []) (by kernel_rfl) ?_
  have e1 : IntKind.i64.wrap (c.t - c.f) = cSz c := rfl
  try simp only [e1]
  repeat' (with_reducible first | exact True.intro | apply And.intro | (first | apply zA | apply zB | apply zC | apply zD | apply zE | apply zF | apply zG) <;> intro)
  all_goals first | exact k1 | rfl | omega | exact dyes (by omega) | exact dno (by omega) | (exfalso; omega) | (refine congrArg (fun z => AV.d (.bool z)) ?_; simp_all; done) | (refine congrArg D.bool ?_; simp_all; done) | (exfalso; simp_all; omega) | skip

set_option maxRecDepth 100000 in
set_option maxHeartbeats 1000000 in
theorem right60b (s : Sq) (c : Ck) (a : Int) (q : Bool) (k1 : FnOK Try.prog 54 [.d (ckD c), .d (.sl (s.cm.map ivD))] [] (.d (.bool q)) []) (h : ¬(c.f < a ∨ c.t > s.n ∨ c.f ≥ c.t ∨ cSz c > 48)) (ht : ¬((0 ≤ c.s ∧ c.s ≤ 1099511627776) ∧ c.r > 0 ∧ c.r ≤ 1073741824)) : FnOK Try.prog 60 ([.d (ckD c), .d (sqD s), .d (.int .i64 a)]) ([]) (.d (.bool false)) ([]) := by
  refine fnOK_wp (p := condP (decide (c.s ≥ (0 : Int))) (condP (decide (c.s ≤ (1099511627776 : Int))) (condP (decide (c.r ≥ (1 : Int))) ((D.bool (decide (c.f ≥ a)) = D.bool true) ∧ ((D.bool (decide (c.t > c.f)) = D.bool true) ∧ ((D.bool (decide (c.t ≤ s.n)) = D.bool true) ∧ ((D.bool (decide (IntKind.i64.wrap (c.t - c.f) ≤ (48 : Int))) = D.bool true) ∧ ((D.bool (decide (c.s ≥ (0 : Int))) = D.bool true) ∧ ((D.bool (decide (c.s ≤ (1099511627776 : Int))) = D.bool true) ∧ ((D.bool (decide (c.r ≥ (1 : Int))) = D.bool true) ∧ ((D.bool (decide (c.r ≤ (1073741824 : Int))) = D.bool false) ∧ ((AV.d (.bool false) = AV.d (.bool false)) ∧ (True)))))))))) ((D.bool (decide (c.f ≥ a)) = D.bool true) ∧ ((D.bool (decide (c.t > c.f)) = D.bool true) ∧ ((D.bool (decide (c.t ≤ s.n)) = D.bool true) ∧ ((D.bool (decide (IntKind.i64.wrap (c.t - c.f) ≤ (48 : Int))) = D.bool true) ∧ ((D.bool (decide (c.s ≥ (0 : Int))) = D.bool true) ∧ ((D.bool (decide (c.s ≤ (1099511627776 : Int))) = D.bool true) ∧ ((D.bool (decide (c.r ≥ (1 : Int))) = D.bool false) ∧ ((D.bool false = D.bool false) ∧ ((AV.d (.bool false) = AV.d (.bool false)) ∧ (True))))))))))) ((D.bool (decide (c.f ≥ a)) = D.bool true) ∧ ((D.bool (decide (c.t > c.f)) = D.bool true) ∧ ((D.bool (decide (c.t ≤ s.n)) = D.bool true) ∧ ((D.bool (decide (IntKind.i64.wrap (c.t - c.f) ≤ (48 : Int))) = D.bool true) ∧ ((D.bool (decide (c.s ≥ (0 : Int))) = D.bool true) ∧ ((D.bool (decide (c.s ≤ (1099511627776 : Int))) = D.bool false) ∧ ((D.bool false = D.bool false) ∧ ((D.bool false = D.bool false) ∧ ((AV.d (.bool false) = AV.d (.bool false)) ∧ (True))))))))))) ((D.bool (decide (c.f ≥ a)) = D.bool true) ∧ ((D.bool (decide (c.t > c.f)) = D.bool true) ∧ ((D.bool (decide (c.t ≤ s.n)) = D.bool true) ∧ ((D.bool (decide (IntKind.i64.wrap (c.t - c.f) ≤ (48 : Int))) = D.bool true) ∧ ((D.bool (decide (c.s ≥ (0 : Int))) = D.bool false) ∧ ((D.bool false = D.bool false) ∧ ((D.bool false = D.bool false) ∧ ((D.bool false = D.bool false) ∧ ((AV.d (.bool false) = AV.d (.bool false)) ∧ (True))))))))))) (h := {H := [(1, [(4, .val (.bool true)), (11, .val (.bool true)), (18, .val (.bool true)), (26, .val (.bool true)), (46, .val (.bool false))])]}) (subs := []) (ws := []) (ρ := []) (by kernel_rfl) ?_
  have e1 : IntKind.i64.wrap (c.t - c.f) = cSz c := rfl
  try simp only [e1]
  repeat' (with_reducible first | exact True.intro | apply And.intro | (first | apply zA | apply zB | apply zC | apply zD | apply zE | apply zF | apply zG) <;> intro)
  all_goals first | exact k1 | rfl | omega | exact dyes (by omega) | exact dno (by omega) | (exfalso; omega) | (refine congrArg (fun z => AV.d (.bool z)) ?_; simp_all; done) | (refine congrArg D.bool ?_; simp_all; done) | (exfalso; simp_all; omega) | skip

set_option maxRecDepth 100000 in
set_option maxHeartbeats 1000000 in
theorem right60c (s : Sq) (c : Ck) (a : Int) (q : Bool) (k1 : FnOK Try.prog 54 [.d (ckD c), .d (.sl (s.cm.map ivD))] [] (.d (.bool q)) []) (h : ¬(c.f < a ∨ c.t > s.n ∨ c.f ≥ c.t ∨ cSz c > 48)) (ht : (0 ≤ c.s ∧ c.s ≤ 1099511627776) ∧ c.r > 0 ∧ c.r ≤ 1073741824) : FnOK Try.prog 60 ([.d (ckD c), .d (sqD s), .d (.int .i64 a)]) ([]) (.d (.bool (!q))) ([]) := by
  refine fnOK_wp (p := (D.bool (decide (c.f ≥ a)) = D.bool true) ∧ ((D.bool (decide (c.t > c.f)) = D.bool true) ∧ ((D.bool (decide (c.t ≤ s.n)) = D.bool true) ∧ ((D.bool (decide (IntKind.i64.wrap (c.t - c.f) ≤ (48 : Int))) = D.bool true) ∧ ((D.bool (decide (c.s ≥ (0 : Int))) = D.bool true) ∧ ((D.bool (decide (c.s ≤ (1099511627776 : Int))) = D.bool true) ∧ ((D.bool (decide (c.r ≥ (1 : Int))) = D.bool true) ∧ ((D.bool (decide (c.r ≤ (1073741824 : Int))) = D.bool true) ∧ ((FnOK Try.prog 54 [AV.d (.agg [D.int .i64 c.f, D.int .i64 c.t, D.int .i64 c.s, D.int .i64 c.r, D.bool c.l]), AV.d (.sl (List.map ivD s.cm))] [] (AV.d (.bool q)) []) ∧ ((AV.d (.bool !q) = AV.d (.bool !q)) ∧ (True))))))))))) (h := {H := [(1, [(4, .val (.bool true)), (11, .val (.bool true)), (18, .val (.bool true)), (26, .val (.bool true)), (31, .val (.bool true)), (36, .val (.bool true)), (41, .val (.bool true)), (46, .val (.bool true)), (50, .call [] (.d (.bool q)) [])])]}) (subs := []) (ws := []) (ρ := []) (by kernel_rfl) ?_
  have e1 : IntKind.i64.wrap (c.t - c.f) = cSz c := rfl
  try simp only [e1]
  repeat' (with_reducible first | exact True.intro | apply And.intro | (first | apply zA | apply zB | apply zC | apply zD | apply zE | apply zF | apply zG) <;> intro)
  all_goals first | exact k1 | rfl | omega | exact dyes (by omega) | exact dno (by omega) | (exfalso; omega) | (refine congrArg (fun z => AV.d (.bool z)) ?_; simp_all; done) | (refine congrArg D.bool ?_; simp_all; done) | (exfalso; simp_all; omega) | skip

theorem timB_iff {c : Ck} : timB c = true ↔ (0 ≤ c.s ∧ c.s ≤ 1099511627776) ∧ c.r > 0 ∧ c.r ≤ 1073741824 := by
  unfold timB tickB
  simp only [Bool.and_eq_true, decide_eq_true_eq]
theorem right60 (s : Sq) (hl : s.cm.length < 100000) (c : Ck) (a : Int) : FnOK Try.prog 60 [.d (ckD c), .d (sqD s), .d (.int .i64 a)] [] (.d (.bool (rightB s c a))) [] := by
  have k1 := meets54 c s.cm hl
  unfold rightB offB
  by_cases h : c.f < a ∨ c.t > s.n ∨ c.f ≥ c.t ∨ cSz c > 48
  · rw [decide_eq_true h]
    exact right60a s c a _ k1 h
  · rw [decide_eq_false h]
    cases ht : timB c
    · exact right60b s c a _ k1 h (fun g => by rw [timB_iff.2 g] at ht; cases ht)
    · exact right60c s c a _ k1 h (timB_iff.1 ht)
/-! ### Check -/
def flR (s : Sq) : List Ck → Int → Bool
  | [], _ => true
  | c :: l, a => rightB s c a && flR s l c.t
def I23 (s : Sq) (a : Int) (j : Nat) : St := ⟨[(1, .ptr 0 0), (3, .d (.int .i64 a)), (4, .d (.int .i64 j))], [(0, sqB s)]⟩
set_option maxRecDepth 100000 in
set_option maxHeartbeats 1000000 in
theorem r23 (s : Sq) (hl : s.fl.length < 1000000) (a : Int) (j : Nat) (c : Ck) (hn : s.fl[j]? = some c) (k1 : FnOK Try.prog 60 [.d (ckD c), .d (sqD s), .d (.int .i64 a)] [] (.d (.bool true)) []) : Runs Try.prog 0 (loopN Try.prog 23 0) (St.as (I23 s a j) 96) (.normal) (St.as (I23 s c.t (j+1)) 96) := by
  refine round_wp (p := condP (decide ((↑j : Int) < (↑(List.map ckD s.fl).length : Int))) (((0 : Int) ≤ (↑j : Int)) ∧ (((List.map ckD s.fl)[(↑j : Int).toNat]? = some (D.agg [D.int .i64 c.f, D.int .i64 c.t, D.int .i64 c.s, D.int .i64 c.r, D.bool c.l])) ∧ ((FnOK Try.prog 60 [AV.d (.agg [D.int .i64 c.f, D.int .i64 c.t, D.int .i64 c.s, D.int .i64 c.r, D.bool c.l]), AV.d (.agg [D.int .i64 s.b, D.str s.d, D.int .i64 s.n, D.sl (List.map ckD s.fl), D.sl (List.map ivD s.cm)]), AV.d (.int .i64 a)] [] (AV.d (.bool true)) []) ∧ (((0 : Int) ≤ (↑j : Int)) ∧ (((List.map ckD s.fl)[(↑j : Int).toNat]? = some (D.agg [D.int .i64 c.f, D.int .i64 c.t, D.int .i64 c.s, D.int .i64 c.r, D.bool c.l])) ∧ ((AV.ptr 0 0 = AV.ptr 0 0) ∧ ((AV.d (.int .i64 c.t) = AV.d (.int .i64 c.t)) ∧ ((AV.d (.int .i64 (IntKind.i64.wrap ((↑j : Int) + (1 : Int)))) = AV.d (.int .i64 (↑(j + 1) : Int))) ∧ ((Ob.box [AV.d (.int .i64 s.b), AV.d (.str s.d), AV.d (.int .i64 s.n), AV.d (.sl (List.map ckD s.fl)), AV.d (.sl (List.map ivD s.cm))] = Ob.box [AV.d (.int .i64 s.b), AV.d (.str s.d), AV.d (.int .i64 s.n), AV.d (.sl (List.map ckD s.fl)), AV.d (.sl (List.map ivD s.cm))]) ∧ (True)))))))))) (False)) (h := {els := [(82, .el (ckD c)), (91, .el (ckD c))], H := [(11, [(7, .call [] (.d (.bool true)) [])])]}) (subs := []) (ws := []) (ρ := []) (by kernel_rfl) ?_
  have hj := get_lt hn
  have hi := inc_i64 (j := j) (by omega)
  try simp only [hi]
  simp only [List.length_map]
  refine condP_t (by rw [decide_eq_true_eq]; omega) ?_
  repeat' (with_reducible first | exact True.intro | apply And.intro | (first | apply zA | apply zB | apply zC | apply zD | apply zE | apply zF | apply zG) <;> intro)
  all_goals first | exact k1 | exact el_map hn rfl | rfl | omega | exact dyes (by omega) | exact dno (by omega) | skip

set_option maxRecDepth 100000 in
set_option maxHeartbeats 1000000 in
theorem e23 (s : Sq) (hl : s.fl.length < 1000000) (a : Int) (j : Nat) (c : Ck) (hn : s.fl[j]? = some c) (k1 : FnOK Try.prog 60 [.d (ckD c), .d (sqD s), .d (.int .i64 a)] [] (.d (.bool false)) []) : Runs Try.prog 0 (loopN Try.prog 23 0) (St.as (I23 s a j) 96) (.ret) (St.as (⟨[(2, .d (.int .i64 10))], []⟩) 96) := by
  refine round_wp (p := condP (decide ((↑j : Int) < (↑(List.map ckD s.fl).length : Int))) (((0 : Int) ≤ (↑j : Int)) ∧ (((List.map ckD s.fl)[(↑j : Int).toNat]? = some (D.agg [D.int .i64 c.f, D.int .i64 c.t, D.int .i64 c.s, D.int .i64 c.r, D.bool c.l])) ∧ ((FnOK Try.prog 60 [AV.d (.agg [D.int .i64 c.f, D.int .i64 c.t, D.int .i64 c.s, D.int .i64 c.r, D.bool c.l]), AV.d (.agg [D.int .i64 s.b, D.str s.d, D.int .i64 s.n, D.sl (List.map ckD s.fl), D.sl (List.map ivD s.cm)]), AV.d (.int .i64 a)] [] (AV.d (.bool false)) []) ∧ ((AV.d (.int .i64 (10 : Int)) = AV.d (.int .i64 (10 : Int))) ∧ (True))))) (False)) (h := {els := [(82, .el (ckD c))], H := [(11, [(7, .call [] (.d (.bool false)) [])])]}) (subs := []) (ws := []) (ρ := []) (by kernel_rfl) ?_
  have hj := get_lt hn
  have hi := inc_i64 (j := j) (by omega)
  try simp only [hi]
  simp only [List.length_map]
  refine condP_t (by rw [decide_eq_true_eq]; omega) ?_
  repeat' (with_reducible first | exact True.intro | apply And.intro | (first | apply zA | apply zB | apply zC | apply zD | apply zE | apply zF | apply zG) <;> intro)
  all_goals first | exact k1 | exact el_map hn rfl | rfl | omega | exact dyes (by omega) | exact dno (by omega) | skip

set_option maxRecDepth 100000 in
set_option maxHeartbeats 1000000 in
theorem q23 (s : Sq) (a : Int) : Runs Try.prog 0 (loopN Try.prog 23 0) (St.as (I23 s a s.fl.length) 96) (.exit 1) (St.as (I23 s a s.fl.length) 96) := by
  refine round_wp (p := condP (decide ((↑s.fl.length : Int) < (↑(List.map ckD s.fl).length : Int))) (False) ((AV.ptr 0 0 = AV.ptr 0 0) ∧ ((AV.d (.int .i64 a) = AV.d (.int .i64 a)) ∧ ((AV.d (.int .i64 (↑s.fl.length : Int)) = AV.d (.int .i64 (↑s.fl.length : Int))) ∧ ((Ob.box [AV.d (.int .i64 s.b), AV.d (.str s.d), AV.d (.int .i64 s.n), AV.d (.sl (List.map ckD s.fl)), AV.d (.sl (List.map ivD s.cm))] = Ob.box [AV.d (.int .i64 s.b), AV.d (.str s.d), AV.d (.int .i64 s.n), AV.d (.sl (List.map ckD s.fl)), AV.d (.sl (List.map ivD s.cm))]) ∧ (True)))))) (h := {}) (subs := []) (ws := []) (ρ := []) (by kernel_rfl) ?_
  repeat' (with_reducible first | exact True.intro | apply And.intro | (first | apply zA | apply zB | apply zC | apply zD | apply zE | apply zF | apply zG) <;> intro)
  all_goals (try simp only [List.length_map, AV.d.injEq, D.int.injEq, D.bool.injEq, D.str.injEq, D.sl.injEq, true_and, and_true, decide_eq_true_eq, decide_eq_false_iff_not, decide_eq_decide])
  all_goals (try simp only [List.length_map] at *)
  all_goals first | rfl | omega

set_option maxRecDepth 100000 in
set_option maxHeartbeats 1000000 in
theorem chk23a (s : Sq) (h : s.b < 0 ∨ s.b > 1099511623680 ∨ s.n < s.b ∨ IntKind.i64.wrap (s.n - s.b) > (s.d.length : Int)) (k1 hL hy hz he : True) : FnOK Try.prog 23 ([.d (sqD s)]) ([]) (.d (.int .i64 8)) ([]) := by
  refine fnOK_wp (p := condP (decide (s.b < (0 : Int))) ((D.bool (decide (s.b < (0 : Int))) = D.bool true) ∧ ((D.bool true = D.bool true) ∧ ((D.bool true = D.bool true) ∧ ((D.bool true = D.bool true) ∧ ((AV.d (.int .i64 (8 : Int)) = AV.d (.int .i64 (8 : Int))) ∧ (True)))))) (condP (decide (s.b > (1099511623680 : Int))) ((D.bool (decide (s.b < (0 : Int))) = D.bool false) ∧ ((D.bool (decide (s.b > (1099511623680 : Int))) = D.bool true) ∧ ((D.bool true = D.bool true) ∧ ((D.bool true = D.bool true) ∧ ((AV.d (.int .i64 (8 : Int)) = AV.d (.int .i64 (8 : Int))) ∧ (True)))))) (condP (decide (s.n < s.b)) ((D.bool (decide (s.b < (0 : Int))) = D.bool false) ∧ ((D.bool (decide (s.b > (1099511623680 : Int))) = D.bool false) ∧ ((D.bool (decide (s.n < s.b)) = D.bool true) ∧ ((D.bool true = D.bool true) ∧ ((AV.d (.int .i64 (8 : Int)) = AV.d (.int .i64 (8 : Int))) ∧ (True)))))) ((D.bool (decide (s.b < (0 : Int))) = D.bool false) ∧ ((D.bool (decide (s.b > (1099511623680 : Int))) = D.bool false) ∧ ((D.bool (decide (s.n < s.b)) = D.bool false) ∧ ((D.bool (decide (IntKind.i64.wrap (s.n - s.b) > (↑s.d.length : Int))) = D.bool true) ∧ ((AV.d (.int .i64 (8 : Int)) = AV.d (.int .i64 (8 : Int))) ∧ (True))))))))) (h := {H := [(1, [(26, .val (.bool true))])]}) (subs := []) (ws := []) (ρ := []) (by kernel_rfl) ?_
  try simp only [List.length_map]
  repeat' (with_reducible first | exact True.intro | apply And.intro | (first | apply zA | apply zB | apply zC | apply zD | apply zE | apply zF | apply zG) <;> intro)
  all_goals first | exact k1 | exact hL | exact hy | exact hz | rfl | omega | exact dyes (by omega) | exact dno (by omega) | (refine congrArg D.bool ?_; simp [he]; done) | (refine congrArg D.bool ?_; simp; omega) | (exfalso; omega) | skip

set_option maxRecDepth 100000 in
set_option maxHeartbeats 1000000 in
theorem chk23b (s : Sq) (h : ¬(s.b < 0 ∨ s.b > 1099511623680 ∨ s.n < s.b ∨ IntKind.i64.wrap (s.n - s.b) > (s.d.length : Int))) (hd : (s.d.length : Int) > 4096) (k1 hL hy hz he : True) : FnOK Try.prog 23 ([.d (sqD s)]) ([]) (.d (.int .i64 5)) ([]) := by
  refine fnOK_wp (p := (D.bool (decide (s.b < (0 : Int))) = D.bool false) ∧ ((D.bool (decide (s.b > (1099511623680 : Int))) = D.bool false) ∧ ((D.bool (decide (s.n < s.b)) = D.bool false) ∧ ((D.bool (decide (IntKind.i64.wrap (s.n - s.b) > (↑s.d.length : Int))) = D.bool false) ∧ ((D.bool (decide ((↑s.d.length : Int) > (4096 : Int))) = D.bool true) ∧ ((AV.d (.int .i64 (5 : Int)) = AV.d (.int .i64 (5 : Int))) ∧ (True))))))) (h := {H := [(1, [(3, .val (.bool false)), (8, .val (.bool false)), (15, .val (.bool false)), (26, .val (.bool false))]), (3, [(4, .val (.bool true))])]}) (subs := []) (ws := []) (ρ := []) (by kernel_rfl) ?_
  try simp only [List.length_map]
  repeat' (with_reducible first | exact True.intro | apply And.intro | (first | apply zA | apply zB | apply zC | apply zD | apply zE | apply zF | apply zG) <;> intro)
  all_goals first | exact k1 | exact hL | exact hy | exact hz | rfl | omega | exact dyes (by omega) | exact dno (by omega) | (refine congrArg D.bool ?_; simp [he]; done) | (refine congrArg D.bool ?_; simp; omega) | (exfalso; omega) | skip

set_option maxRecDepth 100000 in
set_option maxHeartbeats 1000000 in
theorem chk23c (s : Sq) (h : ¬(s.b < 0 ∨ s.b > 1099511623680 ∨ s.n < s.b ∨ IntKind.i64.wrap (s.n - s.b) > (s.d.length : Int))) (hd : ¬(s.d.length : Int) > 4096) (e : Int) (k1 : FnOK Try.prog 59 [.d (.sl (s.cm.map ivD))] [] (.d (.int .i64 e)) []) (he : e ≠ 0) (hL hy hz : True) : FnOK Try.prog 23 ([.d (sqD s)]) ([]) (.d (.int .i64 4)) ([]) := by
  refine fnOK_wp (p := (D.bool (decide (s.b < (0 : Int))) = D.bool false) ∧ ((D.bool (decide (s.b > (1099511623680 : Int))) = D.bool false) ∧ ((D.bool (decide (s.n < s.b)) = D.bool false) ∧ ((D.bool (decide (IntKind.i64.wrap (s.n - s.b) > (↑s.d.length : Int))) = D.bool false) ∧ ((D.bool (decide ((↑s.d.length : Int) > (4096 : Int))) = D.bool false) ∧ ((FnOK Try.prog 59 [AV.d (.sl (List.map ivD s.cm))] [] (AV.d (.int .i64 e)) []) ∧ ((D.bool (e != (0 : Int)) = D.bool true) ∧ ((AV.d (.int .i64 (4 : Int)) = AV.d (.int .i64 (4 : Int))) ∧ (True))))))))) (h := {H := [(1, [(3, .val (.bool false)), (8, .val (.bool false)), (15, .val (.bool false)), (26, .val (.bool false))]), (3, [(4, .val (.bool false))]), (5, [(2, .call [] (.d (.int .i64 e)) []), (4, .val (.bool true))])]}) (subs := []) (ws := []) (ρ := []) (by kernel_rfl) ?_
  try simp only [List.length_map]
  repeat' (with_reducible first | exact True.intro | apply And.intro | (first | apply zA | apply zB | apply zC | apply zD | apply zE | apply zF | apply zG) <;> intro)
  all_goals first | exact k1 | exact hL | exact hy | exact hz | rfl | omega | exact dyes (by omega) | exact dno (by omega) | (refine congrArg D.bool ?_; simp [he]; done) | (refine congrArg D.bool ?_; simp; omega) | (exfalso; omega) | skip

set_option maxRecDepth 100000 in
set_option maxHeartbeats 1000000 in
theorem chk23d (s : Sq) (h : ¬(s.b < 0 ∨ s.b > 1099511623680 ∨ s.n < s.b ∨ IntKind.i64.wrap (s.n - s.b) > (s.d.length : Int))) (hd : ¬(s.d.length : Int) > 4096) (e : Int) (k1 : FnOK Try.prog 59 [.d (.sl (s.cm.map ivD))] [] (.d (.int .i64 e)) []) (he : e = 0) (hs : 0 < s.cm.length) (hsl : s.cm.length < 1000000) (y z : Iv) (hy : (s.cm.map ivD)[((0 : Int)).toNat]? = some (ivD y)) (hz : (s.cm.map ivD)[(IntKind.i64.wrap ((s.cm.length : Int) - 1)).toNat]? = some (ivD z)) (hw : IntKind.i64.wrap ((s.cm.length : Int) - 1) = (s.cm.length : Int) - 1) (hq : y.1 ≤ s.b ∨ z.2 > s.n) (hL : True) : FnOK Try.prog 23 ([.d (sqD s)]) ([]) (.d (.int .i64 4)) ([]) := by
  refine fnOK_wp (p := (D.bool (decide (s.b < (0 : Int))) = D.bool false) ∧ ((D.bool (decide (s.b > (1099511623680 : Int))) = D.bool false) ∧ ((D.bool (decide (s.n < s.b)) = D.bool false) ∧ ((D.bool (decide (IntKind.i64.wrap (s.n - s.b) > (↑s.d.length : Int))) = D.bool false) ∧ ((D.bool (decide ((↑s.d.length : Int) > (4096 : Int))) = D.bool false) ∧ (condP (decide (y.fst ≤ s.b)) ((FnOK Try.prog 59 [AV.d (.sl (List.map ivD s.cm))] [] (AV.d (.int .i64 e)) []) ∧ ((D.bool (e != (0 : Int)) = D.bool false) ∧ ((D.bool (decide ((↑(List.map ivD s.cm).length : Int) > (0 : Int))) = D.bool true) ∧ (((0 : Int) ≤ (0 : Int)) ∧ (((List.map ivD s.cm)[0]? = some (D.agg [D.int .i64 y.fst, D.int .i64 y.snd])) ∧ ((D.bool (decide (y.fst ≤ s.b)) = D.bool true) ∧ ((D.bool true = D.bool true) ∧ ((AV.d (.int .i64 (4 : Int)) = AV.d (.int .i64 (4 : Int))) ∧ (True))))))))) ((FnOK Try.prog 59 [AV.d (.sl (List.map ivD s.cm))] [] (AV.d (.int .i64 e)) []) ∧ ((D.bool (e != (0 : Int)) = D.bool false) ∧ ((D.bool (decide ((↑(List.map ivD s.cm).length : Int) > (0 : Int))) = D.bool true) ∧ (((0 : Int) ≤ (0 : Int)) ∧ (((List.map ivD s.cm)[0]? = some (D.agg [D.int .i64 y.fst, D.int .i64 y.snd])) ∧ ((D.bool (decide (y.fst ≤ s.b)) = D.bool false) ∧ (((0 : Int) ≤ IntKind.i64.wrap ((↑(List.map ivD s.cm).length : Int) - (1 : Int))) ∧ (((List.map ivD s.cm)[(IntKind.i64.wrap ((↑(List.map ivD s.cm).length : Int) - (1 : Int))).toNat]? = some (D.agg [D.int .i64 z.fst, D.int .i64 z.snd])) ∧ ((D.bool (decide (z.snd > s.n)) = D.bool true) ∧ ((AV.d (.int .i64 (4 : Int)) = AV.d (.int .i64 (4 : Int))) ∧ (True))))))))))))))))) (h := {els := [(49, .el (ivD y)), (58, .el (ivD z))], H := [(1, [(3, .val (.bool false)), (8, .val (.bool false)), (15, .val (.bool false)), (26, .val (.bool false))]), (3, [(4, .val (.bool false))]), (5, [(2, .call [] (.d (.int .i64 e)) []), (4, .val (.bool false)), (9, .val (.bool true)), (34, .val (.bool true))])]}) (subs := []) (ws := []) (ρ := []) (by kernel_rfl) ?_
  rw [hw] at hz
  simp only [List.length_map, hw]
  try simp only [List.length_map]
  repeat' (with_reducible first | exact True.intro | apply And.intro | (first | apply zA | apply zB | apply zC | apply zD | apply zE | apply zF | apply zG) <;> intro)
  all_goals first | exact k1 | exact hL | exact hy | exact hz | rfl | omega | exact dyes (by omega) | exact dno (by omega) | (refine congrArg D.bool ?_; simp [he]; done) | (refine congrArg D.bool ?_; simp; omega) | (exfalso; omega) | skip

set_option maxRecDepth 100000 in
set_option maxHeartbeats 1000000 in
theorem chk23e (s : Sq) (h : ¬(s.b < 0 ∨ s.b > 1099511623680 ∨ s.n < s.b ∨ IntKind.i64.wrap (s.n - s.b) > (s.d.length : Int))) (hd : ¬(s.d.length : Int) > 4096) (e : Int) (k1 : FnOK Try.prog 59 [.d (.sl (s.cm.map ivD))] [] (.d (.int .i64 e)) []) (he : e = 0) (hs : 0 < s.cm.length) (hsl : s.cm.length < 1000000) (y z : Iv) (hy : (s.cm.map ivD)[((0 : Int)).toNat]? = some (ivD y)) (hz : (s.cm.map ivD)[(IntKind.i64.wrap ((s.cm.length : Int) - 1)).toNat]? = some (ivD z)) (hw : IntKind.i64.wrap ((s.cm.length : Int) - 1) = (s.cm.length : Int) - 1) (hq : ¬(y.1 ≤ s.b ∨ z.2 > s.n)) (hL : Loops Try.prog 0 (loopN Try.prog 23 0) ((I23 s s.b 0).as 96) .ret ((⟨[(2, .d (.int .i64 10))], []⟩ : St).as 96)) : FnOK Try.prog 23 ([.d (sqD s)]) ([]) (.d (.int .i64 10)) ([]) := by
  refine fnOK_wp (p := (D.bool (decide (s.b < (0 : Int))) = D.bool false) ∧ ((D.bool (decide (s.b > (1099511623680 : Int))) = D.bool false) ∧ ((D.bool (decide (s.n < s.b)) = D.bool false) ∧ ((D.bool (decide (IntKind.i64.wrap (s.n - s.b) > (↑s.d.length : Int))) = D.bool false) ∧ ((D.bool (decide ((↑s.d.length : Int) > (4096 : Int))) = D.bool false) ∧ ((FnOK Try.prog 59 [AV.d (.sl (List.map ivD s.cm))] [] (AV.d (.int .i64 e)) []) ∧ ((D.bool (e != (0 : Int)) = D.bool false) ∧ ((D.bool (decide ((↑(List.map ivD s.cm).length : Int) > (0 : Int))) = D.bool true) ∧ (((0 : Int) ≤ (0 : Int)) ∧ (((List.map ivD s.cm)[0]? = some (D.agg [D.int .i64 y.fst, D.int .i64 y.snd])) ∧ ((D.bool (decide (y.fst ≤ s.b)) = D.bool false) ∧ (((0 : Int) ≤ IntKind.i64.wrap ((↑(List.map ivD s.cm).length : Int) - (1 : Int))) ∧ (((List.map ivD s.cm)[(IntKind.i64.wrap ((↑(List.map ivD s.cm).length : Int) - (1 : Int))).toNat]? = some (D.agg [D.int .i64 z.fst, D.int .i64 z.snd])) ∧ ((D.bool (decide (z.snd > s.n)) = D.bool false) ∧ ((AV.ptr 1008 0 = AV.ptr 1008 0) ∧ ((AV.d (.int .i64 s.b) = AV.d (.int .i64 s.b)) ∧ ((AV.d (.int .i64 (0 : Int)) = AV.d (.int .i64 (0 : Int))) ∧ ((Ob.box [AV.d (.int .i64 s.b), AV.d (.str s.d), AV.d (.int .i64 s.n), AV.d (.sl (List.map ckD s.fl)), AV.d (.sl (List.map ivD s.cm))] = Ob.box [AV.d (.int .i64 s.b), AV.d (.str s.d), AV.d (.int .i64 s.n), AV.d (.sl (List.map ckD s.fl)), AV.d (.sl (List.map ivD s.cm))]) ∧ ((LoopsS Try.prog 0 (loopN Try.prog 23 0) (I23 s s.b 0) Exit.ret (St.mk [(2, AV.d (.int .i64 (10 : Int)))] []) 96) ∧ ((AV.d (.int .i64 (10 : Int)) = AV.d (.int .i64 (10 : Int))) ∧ (True))))))))))))))))))))) (h := {els := [(49, .el (ivD y)), (58, .el (ivD z))], H := [(1, [(3, .val (.bool false)), (8, .val (.bool false)), (15, .val (.bool false)), (26, .val (.bool false))]), (3, [(4, .val (.bool false))]), (5, [(2, .call [] (.d (.int .i64 e)) []), (4, .val (.bool false)), (9, .val (.bool true)), (18, .val (.bool false)), (34, .val (.bool false))])]}) (subs := [⟨[], [], I23 s s.b 0, .ret, ⟨[(2, .d (.int .i64 10))], []⟩⟩]) (ws := []) (ρ := []) (by kernel_rfl) ?_
  rw [hw] at hz
  simp only [List.length_map, hw]
  try simp only [List.length_map]
  repeat' (with_reducible first | exact True.intro | apply And.intro | (first | apply zA | apply zB | apply zC | apply zD | apply zE | apply zF | apply zG) <;> intro)
  all_goals first | exact k1 | exact hL | exact hy | exact hz | rfl | omega | exact dyes (by omega) | exact dno (by omega) | (refine congrArg D.bool ?_; simp [he]; done) | (refine congrArg D.bool ?_; simp; omega) | (exfalso; omega) | skip

set_option maxRecDepth 100000 in
set_option maxHeartbeats 1000000 in
theorem chk23f (s : Sq) (h : ¬(s.b < 0 ∨ s.b > 1099511623680 ∨ s.n < s.b ∨ IntKind.i64.wrap (s.n - s.b) > (s.d.length : Int))) (hd : ¬(s.d.length : Int) > 4096) (e : Int) (k1 : FnOK Try.prog 59 [.d (.sl (s.cm.map ivD))] [] (.d (.int .i64 e)) []) (he : e = 0) (hs : 0 < s.cm.length) (hsl : s.cm.length < 1000000) (y z : Iv) (hy : (s.cm.map ivD)[((0 : Int)).toNat]? = some (ivD y)) (hz : (s.cm.map ivD)[(IntKind.i64.wrap ((s.cm.length : Int) - 1)).toNat]? = some (ivD z)) (hw : IntKind.i64.wrap ((s.cm.length : Int) - 1) = (s.cm.length : Int) - 1) (hq : ¬(y.1 ≤ s.b ∨ z.2 > s.n)) (a : Int) (hL : Loops Try.prog 0 (loopN Try.prog 23 0) ((I23 s s.b 0).as 96) (.exit 1) ((I23 s a s.fl.length).as 96)) : FnOK Try.prog 23 ([.d (sqD s)]) ([]) (.d (.int .i64 0)) ([]) := by
  refine fnOK_wp (p := (D.bool (decide (s.b < (0 : Int))) = D.bool false) ∧ ((D.bool (decide (s.b > (1099511623680 : Int))) = D.bool false) ∧ ((D.bool (decide (s.n < s.b)) = D.bool false) ∧ ((D.bool (decide (IntKind.i64.wrap (s.n - s.b) > (↑s.d.length : Int))) = D.bool false) ∧ ((D.bool (decide ((↑s.d.length : Int) > (4096 : Int))) = D.bool false) ∧ ((FnOK Try.prog 59 [AV.d (.sl (List.map ivD s.cm))] [] (AV.d (.int .i64 e)) []) ∧ ((D.bool (e != (0 : Int)) = D.bool false) ∧ ((D.bool (decide ((↑(List.map ivD s.cm).length : Int) > (0 : Int))) = D.bool true) ∧ (((0 : Int) ≤ (0 : Int)) ∧ (((List.map ivD s.cm)[0]? = some (D.agg [D.int .i64 y.fst, D.int .i64 y.snd])) ∧ ((D.bool (decide (y.fst ≤ s.b)) = D.bool false) ∧ (((0 : Int) ≤ IntKind.i64.wrap ((↑(List.map ivD s.cm).length : Int) - (1 : Int))) ∧ (((List.map ivD s.cm)[(IntKind.i64.wrap ((↑(List.map ivD s.cm).length : Int) - (1 : Int))).toNat]? = some (D.agg [D.int .i64 z.fst, D.int .i64 z.snd])) ∧ ((D.bool (decide (z.snd > s.n)) = D.bool false) ∧ ((AV.ptr 1008 0 = AV.ptr 1008 0) ∧ ((AV.d (.int .i64 s.b) = AV.d (.int .i64 s.b)) ∧ ((AV.d (.int .i64 (0 : Int)) = AV.d (.int .i64 (0 : Int))) ∧ ((Ob.box [AV.d (.int .i64 s.b), AV.d (.str s.d), AV.d (.int .i64 s.n), AV.d (.sl (List.map ckD s.fl)), AV.d (.sl (List.map ivD s.cm))] = Ob.box [AV.d (.int .i64 s.b), AV.d (.str s.d), AV.d (.int .i64 s.n), AV.d (.sl (List.map ckD s.fl)), AV.d (.sl (List.map ivD s.cm))]) ∧ ((LoopsS Try.prog 0 (loopN Try.prog 23 0) (I23 s s.b 0) (Exit.exit 1) (I23 s a s.fl.length) 96) ∧ ((AV.d (.int .i64 (0 : Int)) = AV.d (.int .i64 (0 : Int))) ∧ (True))))))))))))))))))))) (h := {els := [(49, .el (ivD y)), (58, .el (ivD z))], H := [(1, [(3, .val (.bool false)), (8, .val (.bool false)), (15, .val (.bool false)), (26, .val (.bool false))]), (3, [(4, .val (.bool false))]), (5, [(2, .call [] (.d (.int .i64 e)) []), (4, .val (.bool false)), (9, .val (.bool true)), (18, .val (.bool false)), (34, .val (.bool false))])]}) (subs := [⟨[], [], I23 s s.b 0, .exit 1, I23 s a s.fl.length⟩]) (ws := []) (ρ := []) (by kernel_rfl) ?_
  rw [hw] at hz
  simp only [List.length_map, hw]
  try simp only [List.length_map]
  repeat' (with_reducible first | exact True.intro | apply And.intro | (first | apply zA | apply zB | apply zC | apply zD | apply zE | apply zF | apply zG) <;> intro)
  all_goals first | exact k1 | exact hL | exact hy | exact hz | rfl | omega | exact dyes (by omega) | exact dno (by omega) | (refine congrArg D.bool ?_; simp [he]; done) | (refine congrArg D.bool ?_; simp; omega) | (exfalso; omega) | skip

set_option maxRecDepth 100000 in
set_option maxHeartbeats 1000000 in
theorem chk23g (s : Sq) (h : ¬(s.b < 0 ∨ s.b > 1099511623680 ∨ s.n < s.b ∨ IntKind.i64.wrap (s.n - s.b) > (s.d.length : Int))) (hd : ¬(s.d.length : Int) > 4096) (e : Int) (k1 : FnOK Try.prog 59 [.d (.sl (s.cm.map ivD))] [] (.d (.int .i64 e)) []) (he : e = 0) (hs : s.cm.length = 0) (hy hz : True) (hL : Loops Try.prog 0 (loopN Try.prog 23 0) ((I23 s s.b 0).as 96) .ret ((⟨[(2, .d (.int .i64 10))], []⟩ : St).as 96)) : FnOK Try.prog 23 ([.d (sqD s)]) ([]) (.d (.int .i64 10)) ([]) := by
  refine fnOK_wp (p := (D.bool (decide (s.b < (0 : Int))) = D.bool false) ∧ ((D.bool (decide (s.b > (1099511623680 : Int))) = D.bool false) ∧ ((D.bool (decide (s.n < s.b)) = D.bool false) ∧ ((D.bool (decide (IntKind.i64.wrap (s.n - s.b) > (↑s.d.length : Int))) = D.bool false) ∧ ((D.bool (decide ((↑s.d.length : Int) > (4096 : Int))) = D.bool false) ∧ ((FnOK Try.prog 59 [AV.d (.sl (List.map ivD s.cm))] [] (AV.d (.int .i64 e)) []) ∧ ((D.bool (e != (0 : Int)) = D.bool false) ∧ ((D.bool (decide ((↑(List.map ivD s.cm).length : Int) > (0 : Int))) = D.bool false) ∧ ((AV.ptr 1008 0 = AV.ptr 1008 0) ∧ ((AV.d (.int .i64 s.b) = AV.d (.int .i64 s.b)) ∧ ((AV.d (.int .i64 (0 : Int)) = AV.d (.int .i64 (0 : Int))) ∧ ((Ob.box [AV.d (.int .i64 s.b), AV.d (.str s.d), AV.d (.int .i64 s.n), AV.d (.sl (List.map ckD s.fl)), AV.d (.sl (List.map ivD s.cm))] = Ob.box [AV.d (.int .i64 s.b), AV.d (.str s.d), AV.d (.int .i64 s.n), AV.d (.sl (List.map ckD s.fl)), AV.d (.sl (List.map ivD s.cm))]) ∧ ((LoopsS Try.prog 0 (loopN Try.prog 23 0) (I23 s s.b 0) Exit.ret (St.mk [(2, AV.d (.int .i64 (10 : Int)))] []) 96) ∧ ((AV.d (.int .i64 (10 : Int)) = AV.d (.int .i64 (10 : Int))) ∧ (True))))))))))))))) (h := {H := [(1, [(3, .val (.bool false)), (8, .val (.bool false)), (15, .val (.bool false)), (26, .val (.bool false))]), (3, [(4, .val (.bool false))]), (5, [(2, .call [] (.d (.int .i64 e)) []), (4, .val (.bool false)), (9, .val (.bool false))])]}) (subs := [⟨[], [], I23 s s.b 0, .ret, ⟨[(2, .d (.int .i64 10))], []⟩⟩]) (ws := []) (ρ := []) (by kernel_rfl) ?_
  try simp only [List.length_map]
  repeat' (with_reducible first | exact True.intro | apply And.intro | (first | apply zA | apply zB | apply zC | apply zD | apply zE | apply zF | apply zG) <;> intro)
  all_goals first | exact k1 | exact hL | exact hy | exact hz | rfl | omega | exact dyes (by omega) | exact dno (by omega) | (refine congrArg D.bool ?_; simp [he]; done) | (refine congrArg D.bool ?_; simp; omega) | (exfalso; omega) | skip

set_option maxRecDepth 100000 in
set_option maxHeartbeats 1000000 in
theorem chk23h (s : Sq) (h : ¬(s.b < 0 ∨ s.b > 1099511623680 ∨ s.n < s.b ∨ IntKind.i64.wrap (s.n - s.b) > (s.d.length : Int))) (hd : ¬(s.d.length : Int) > 4096) (e : Int) (k1 : FnOK Try.prog 59 [.d (.sl (s.cm.map ivD))] [] (.d (.int .i64 e)) []) (he : e = 0) (hs : s.cm.length = 0) (hy hz : True) (a : Int) (hL : Loops Try.prog 0 (loopN Try.prog 23 0) ((I23 s s.b 0).as 96) (.exit 1) ((I23 s a s.fl.length).as 96)) : FnOK Try.prog 23 ([.d (sqD s)]) ([]) (.d (.int .i64 0)) ([]) := by
  refine fnOK_wp (p := (D.bool (decide (s.b < (0 : Int))) = D.bool false) ∧ ((D.bool (decide (s.b > (1099511623680 : Int))) = D.bool false) ∧ ((D.bool (decide (s.n < s.b)) = D.bool false) ∧ ((D.bool (decide (IntKind.i64.wrap (s.n - s.b) > (↑s.d.length : Int))) = D.bool false) ∧ ((D.bool (decide ((↑s.d.length : Int) > (4096 : Int))) = D.bool false) ∧ ((FnOK Try.prog 59 [AV.d (.sl (List.map ivD s.cm))] [] (AV.d (.int .i64 e)) []) ∧ ((D.bool (e != (0 : Int)) = D.bool false) ∧ ((D.bool (decide ((↑(List.map ivD s.cm).length : Int) > (0 : Int))) = D.bool false) ∧ ((AV.ptr 1008 0 = AV.ptr 1008 0) ∧ ((AV.d (.int .i64 s.b) = AV.d (.int .i64 s.b)) ∧ ((AV.d (.int .i64 (0 : Int)) = AV.d (.int .i64 (0 : Int))) ∧ ((Ob.box [AV.d (.int .i64 s.b), AV.d (.str s.d), AV.d (.int .i64 s.n), AV.d (.sl (List.map ckD s.fl)), AV.d (.sl (List.map ivD s.cm))] = Ob.box [AV.d (.int .i64 s.b), AV.d (.str s.d), AV.d (.int .i64 s.n), AV.d (.sl (List.map ckD s.fl)), AV.d (.sl (List.map ivD s.cm))]) ∧ ((LoopsS Try.prog 0 (loopN Try.prog 23 0) (I23 s s.b 0) (Exit.exit 1) (I23 s a s.fl.length) 96) ∧ ((AV.d (.int .i64 (0 : Int)) = AV.d (.int .i64 (0 : Int))) ∧ (True))))))))))))))) (h := {H := [(1, [(3, .val (.bool false)), (8, .val (.bool false)), (15, .val (.bool false)), (26, .val (.bool false))]), (3, [(4, .val (.bool false))]), (5, [(2, .call [] (.d (.int .i64 e)) []), (4, .val (.bool false)), (9, .val (.bool false))])]}) (subs := [⟨[], [], I23 s s.b 0, .exit 1, I23 s a s.fl.length⟩]) (ws := []) (ρ := []) (by kernel_rfl) ?_
  try simp only [List.length_map]
  repeat' (with_reducible first | exact True.intro | apply And.intro | (first | apply zA | apply zB | apply zC | apply zD | apply zE | apply zF | apply zG) <;> intro)
  all_goals first | exact k1 | exact hL | exact hy | exact hz | rfl | omega | exact dyes (by omega) | exact dno (by omega) | (refine congrArg D.bool ?_; simp [he]; done) | (refine congrArg D.bool ?_; simp; omega) | (exfalso; omega) | skip

theorem lp23 (s : Sq) (hf : s.fl.length < 1000000) (hc : s.cm.length < 100000) : ∀ (l : List Ck) (j : Nat) (a : Int), s.fl.drop j = l → j ≤ s.fl.length →
    (flR s l a = true → ∃ a', Loops Try.prog 0 (loopN Try.prog 23 0) ((I23 s a j).as 96) (.exit 1) ((I23 s a' s.fl.length).as 96)) ∧
    (flR s l a = false → Loops Try.prog 0 (loopN Try.prog 23 0) ((I23 s a j).as 96) .ret ((⟨[(2, .d (.int .i64 10))], []⟩ : St).as 96))
  | [], j, a, h, hj => by
    have e : j = s.fl.length := by
      have := congrArg List.length h
      rw [List.length_drop, List.length_nil] at this
      omega
    subst e
    exact ⟨fun _ => ⟨a, .out (q23 s a) (by simp)⟩, fun g => by cases g⟩
  | c :: l, j, a, h, hj => by
    have hlt : j < s.fl.length := by
      have := congrArg List.length h
      rw [List.length_drop, List.length_cons] at this
      omega
    have hn : s.fl[j]? = some c := by
      have := congrArg (fun z => z[0]?) h
      simpa using this
    have hd : s.fl.drop (j + 1) = l := by
      have := congrArg (fun z => z.drop 1) h
      simpa using this
    obtain ⟨i1, i2⟩ := lp23 s hf hc l (j + 1) c.t hd (by omega)
    have k := right60 s hc c a
    unfold flR
    cases g : rightB s c a
    · rw [g] at k
      exact ⟨fun q => by simp at q, fun _ => .out (e23 s hf a j c hn k) (by simp)⟩
    · rw [g] at k
      have r := r23 s hf a j c hn k
      refine ⟨fun q => ?_, fun q => ?_⟩
      · obtain ⟨a', h'⟩ := i1 (by simpa using q)
        exact ⟨a', .next r h'⟩
      · exact .next r (i2 (by simpa using q))
def camR (s : Sq) : Bool := decide (iChk s.cm = 0) && (match s.cm.head?, s.cm.getLast? with | some y, some z => !decide (y.1 ≤ s.b ∨ z.2 > s.n) | _, _ => true)
def sChkR (s : Sq) : Int := if rngB s = true then 8 else if (s.d.length : Int) > 4096 then 5 else if camR s = false then 4 else if flR s s.fl s.b = false then 10 else 0
theorem chk23 (s : Sq) (hf : s.fl.length < 1000000) (hc : s.cm.length < 100000) : FnOK Try.prog 23 [.d (sqD s)] [] (.d (.int .i64 (sChkR s))) [] := by
  have k1 := chk20 s.cm (by omega)
  unfold sChkR
  by_cases h : s.b < 0 ∨ s.b > 1099511623680 ∨ s.n < s.b ∨ IntKind.i64.wrap (s.n - s.b) > (s.d.length : Int)
  · have e : rngB s = true := decide_eq_true h
    rw [e, if_pos rfl]
    exact chk23a s h trivial trivial trivial trivial trivial
  · have e : rngB s = false := decide_eq_false h
    rw [e, if_neg (by simp)]
    by_cases hd : (s.d.length : Int) > 4096
    · rw [if_pos hd]; exact chk23b s h hd trivial trivial trivial trivial trivial
    · rw [if_neg hd]
      unfold camR
      by_cases he : iChk s.cm = 0
      · rw [decide_eq_true he, Bool.true_and]
        obtain ⟨i1, i2⟩ := lp23 s hf hc s.fl 0 s.b rfl (by omega)
        by_cases hs : s.cm = []
        · rw [hs]
          show FnOK _ _ _ _ (.d (.int .i64 (if true = false then 4 else if flR s s.fl s.b = false then 10 else 0))) _
          rw [if_neg (by simp)]
          cases hq : flR s s.fl s.b
          · exact chk23g s h hd _ k1 he (by rw [hs]; rfl) trivial trivial (i2 hq)
          · obtain ⟨a', h'⟩ := i1 hq
            exact chk23h s h hd _ k1 he (by rw [hs]; rfl) trivial trivial a' h'
        · have hpos := List.length_pos_iff.2 hs
          have hw : IntKind.i64.wrap ((s.cm.length : Int) - 1) = (s.cm.length : Int) - 1 := wrap_in (by omega) (by omega)
          obtain ⟨y, hy⟩ : ∃ y, s.cm.head? = some y := ⟨_, List.head?_eq_some_head hs⟩
          obtain ⟨z, hz⟩ : ∃ z, s.cm.getLast? = some z := ⟨_, List.getLast?_eq_some_getLast hs⟩
          rw [hy, hz]
          have hy' : (s.cm.map ivD)[((0 : Int)).toNat]? = some (ivD y) := by
            rw [List.head?_eq_getElem?] at hy
            show (s.cm.map ivD)[0]? = _
            rw [List.getElem?_map, hy]; rfl
          have hz' : (s.cm.map ivD)[(IntKind.i64.wrap ((s.cm.length : Int) - 1)).toNat]? = some (ivD z) := by
            rw [List.getLast?_eq_getElem?] at hz
            rw [hw, show ((s.cm.length : Int) - 1).toNat = s.cm.length - 1 by omega, List.getElem?_map, hz]; rfl
          show FnOK _ _ _ _ (.d (.int .i64 (if (!decide (y.1 ≤ s.b ∨ z.2 > s.n)) = false then 4 else if flR s s.fl s.b = false then 10 else 0))) _
          by_cases hq : y.1 ≤ s.b ∨ z.2 > s.n
          · rw [decide_eq_true hq]
            exact chk23d s h hd _ k1 he hpos (by omega) y z hy' hz' hw hq trivial
          · rw [decide_eq_false hq, if_neg (by simp)]
            cases hq2 : flR s s.fl s.b
            · exact chk23e s h hd _ k1 he hpos (by omega) y z hy' hz' hw hq (i2 hq2)
            · obtain ⟨a', h'⟩ := i1 hq2
              exact chk23f s h hd _ k1 he hpos (by omega) y z hy' hz' hw hq a' h'
      · rw [decide_eq_false he, Bool.false_and, if_pos rfl]
        exact chk23c s h hd _ k1 he trivial trivial trivial
end Go.Proofs.Ytfllhedkgeljaaa

/-
laws 11: the document's: how much is under way, writing, lists with one turned, the first that is lost.
-/
set_option linter.unusedSimpArgs false
set_option linter.unusedVariables false
namespace Go.Proofs.Ytfllhedkgeljaaa
open Sx Go.RowKit C06

/-! ### Flight, Room -/
def I25 (s : Sq) (n : Int) (j : Nat) : St := ⟨[(1, .ptr 0 0), (3, .d (.int .i64 n)), (4, .d (.int .i64 j))], [(0, sqB s)]⟩
set_option maxRecDepth 100000 in
set_option maxHeartbeats 1000000 in
theorem r25 (s : Sq) (hl : s.fl.length < 1000000) (a : Int) (j : Nat) (c : Ck) (hn : s.fl[j]? = some c) (hq : D.bool (!c.l) = D.bool true) : Runs Try.prog 0 (loopN Try.prog 25 0) (St.as (I25 s a j) 35) (.normal) (St.as (I25 s (IntKind.i64.wrap (a + cSz c)) (j+1)) 35) := by
  refine round_wp (p := condP (decide ((↑j : Int) < (↑(List.map ckD s.fl).length : Int))) (((0 : Int) ≤ (↑j : Int)) ∧ (((List.map ckD s.fl)[(↑j : Int).toNat]? = some (D.agg [D.int .i64 c.f, D.int .i64 c.t, D.int .i64 c.s, D.int .i64 c.r, D.bool c.l])) ∧ (((D.bool !c.l) = D.bool true) ∧ (((0 : Int) ≤ (↑j : Int)) ∧ (((List.map ckD s.fl)[(↑j : Int).toNat]? = some (D.agg [D.int .i64 c.f, D.int .i64 c.t, D.int .i64 c.s, D.int .i64 c.r, D.bool c.l])) ∧ (((0 : Int) ≤ (↑j : Int)) ∧ (((List.map ckD s.fl)[(↑j : Int).toNat]? = some (D.agg [D.int .i64 c.f, D.int .i64 c.t, D.int .i64 c.s, D.int .i64 c.r, D.bool c.l])) ∧ ((AV.ptr 0 0 = AV.ptr 0 0) ∧ ((AV.d (.int .i64 (IntKind.i64.wrap (a + IntKind.i64.wrap (c.t - c.f)))) = AV.d (.int .i64 (IntKind.i64.wrap (a + cSz c)))) ∧ ((AV.d (.int .i64 (IntKind.i64.wrap ((↑j : Int) + (1 : Int)))) = AV.d (.int .i64 (↑(j + 1) : Int))) ∧ ((Ob.box [AV.d (.int .i64 s.b), AV.d (.str s.d), AV.d (.int .i64 s.n), AV.d (.sl (List.map ckD s.fl)), AV.d (.sl (List.map ivD s.cm))] = Ob.box [AV.d (.int .i64 s.b), AV.d (.str s.d), AV.d (.int .i64 s.n), AV.d (.sl (List.map ckD s.fl)), AV.d (.sl (List.map ivD s.cm))]) ∧ (True)))))))))))) (False)) (h := {els := [(13, .el (ckD c)), (21, .el (ckD c)), (27, .el (ckD c))], H := [(5, [(6, .val (.bool true))])]}) (subs := []) (ws := []) (ρ := []) (by kernel_rfl) ?_
  have hj := get_lt hn
  have hi := inc_i64 (j := j) (by omega)
  try simp only [hi]
  simp only [List.length_map]
  refine condP_t (by rw [decide_eq_true_eq]; omega) ?_
  repeat' (with_reducible first | exact True.intro | apply And.intro | (first | apply zA | apply zB | apply zC | apply zD | apply zE | apply zF | apply zG) <;> intro)
  all_goals first | exact hq | exact el_map hn rfl | rfl | omega | skip

set_option maxRecDepth 100000 in
set_option maxHeartbeats 1000000 in
theorem s25 (s : Sq) (hl : s.fl.length < 1000000) (a : Int) (j : Nat) (c : Ck) (hn : s.fl[j]? = some c) (hq : D.bool (!c.l) = D.bool false) : Runs Try.prog 0 (loopN Try.prog 25 0) (St.as (I25 s a j) 35) (.normal) (St.as (I25 s a (j+1)) 35) := by
  refine round_wp (p := condP (decide ((↑j : Int) < (↑(List.map ckD s.fl).length : Int))) (((0 : Int) ≤ (↑j : Int)) ∧ (((List.map ckD s.fl)[(↑j : Int).toNat]? = some (D.agg [D.int .i64 c.f, D.int .i64 c.t, D.int .i64 c.s, D.int .i64 c.r, D.bool c.l])) ∧ (((D.bool !c.l) = D.bool false) ∧ ((AV.ptr 0 0 = AV.ptr 0 0) ∧ ((AV.d (.int .i64 a) = AV.d (.int .i64 a)) ∧ ((AV.d (.int .i64 (IntKind.i64.wrap ((↑j : Int) + (1 : Int)))) = AV.d (.int .i64 (↑(j + 1) : Int))) ∧ ((Ob.box [AV.d (.int .i64 s.b), AV.d (.str s.d), AV.d (.int .i64 s.n), AV.d (.sl (List.map ckD s.fl)), AV.d (.sl (List.map ivD s.cm))] = Ob.box [AV.d (.int .i64 s.b), AV.d (.str s.d), AV.d (.int .i64 s.n), AV.d (.sl (List.map ckD s.fl)), AV.d (.sl (List.map ivD s.cm))]) ∧ (True)))))))) (False)) (h := {els := [(13, .el (ckD c))], H := [(5, [(6, .val (.bool false))])]}) (subs := []) (ws := []) (ρ := []) (by kernel_rfl) ?_
  have hj := get_lt hn
  have hi := inc_i64 (j := j) (by omega)
  try simp only [hi]
  simp only [List.length_map]
  refine condP_t (by rw [decide_eq_true_eq]; omega) ?_
  repeat' (with_reducible first | exact True.intro | apply And.intro | (first | apply zA | apply zB | apply zC | apply zD | apply zE | apply zF | apply zG) <;> intro)
  all_goals first | exact hq | exact el_map hn rfl | rfl | omega | skip

set_option maxRecDepth 100000 in
set_option maxHeartbeats 1000000 in
theorem q25 (s : Sq) (a : Int) : Runs Try.prog 0 (loopN Try.prog 25 0) (St.as (I25 s a s.fl.length) 35) (.exit 0) (St.as (I25 s a s.fl.length) 35) := by
  refine round_wp (p := condP (decide ((↑s.fl.length : Int) < (↑(List.map ckD s.fl).length : Int))) (False) ((AV.ptr 0 0 = AV.ptr 0 0) ∧ ((AV.d (.int .i64 a) = AV.d (.int .i64 a)) ∧ ((AV.d (.int .i64 (↑s.fl.length : Int)) = AV.d (.int .i64 (↑s.fl.length : Int))) ∧ ((Ob.box [AV.d (.int .i64 s.b), AV.d (.str s.d), AV.d (.int .i64 s.n), AV.d (.sl (List.map ckD s.fl)), AV.d (.sl (List.map ivD s.cm))] = Ob.box [AV.d (.int .i64 s.b), AV.d (.str s.d), AV.d (.int .i64 s.n), AV.d (.sl (List.map ckD s.fl)), AV.d (.sl (List.map ivD s.cm))]) ∧ (True)))))) (h := {}) (subs := []) (ws := []) (ρ := []) (by kernel_rfl) ?_
  repeat' (with_reducible first | exact True.intro | apply And.intro | (first | apply zA | apply zB | apply zC | apply zD | apply zE | apply zF | apply zG) <;> intro)
  all_goals (try simp only [List.length_map, AV.d.injEq, D.int.injEq, D.bool.injEq, D.str.injEq, D.sl.injEq, true_and, and_true, decide_eq_true_eq, decide_eq_false_iff_not, decide_eq_decide])
  all_goals (try simp only [List.length_map] at *)
  all_goals first | rfl | omega

set_option maxRecDepth 100000 in
set_option maxHeartbeats 1000000 in
theorem flight25w (s : Sq) (a : Int) (hL : Loops Try.prog 0 (loopN Try.prog 25 0) ((I25 s 0 0).as 35) (.exit 0) ((I25 s a s.fl.length).as 35)) : FnOK Try.prog 25 ([.d (sqD s)]) ([]) (.d (.int .i64 a)) ([]) := by
  refine fnOK_wp (p := (AV.ptr 1008 0 = AV.ptr 1008 0) ∧ ((AV.d (.int .i64 (0 : Int)) = AV.d (.int .i64 (0 : Int))) ∧ ((AV.d (.int .i64 (0 : Int)) = AV.d (.int .i64 (0 : Int))) ∧ ((Ob.box [AV.d (.int .i64 s.b), AV.d (.str s.d), AV.d (.int .i64 s.n), AV.d (.sl (List.map ckD s.fl)), AV.d (.sl (List.map ivD s.cm))] = Ob.box [AV.d (.int .i64 s.b), AV.d (.str s.d), AV.d (.int .i64 s.n), AV.d (.sl (List.map ckD s.fl)), AV.d (.sl (List.map ivD s.cm))]) ∧ ((LoopsS Try.prog 0 (loopN Try.prog 25 0) (I25 s (0 : Int) 0) (Exit.exit 0) (I25 s a s.fl.length) 35) ∧ ((AV.d (.int .i64 a) = AV.d (.int .i64 a)) ∧ (True))))))) (h := {}) (subs := [⟨[], [], I25 s 0 0, .exit 0, I25 s a s.fl.length⟩]) (ws := []) (ρ := []) (by kernel_rfl) ?_
  repeat' (with_reducible first | exact True.intro | apply And.intro | (first | apply zA | apply zB | apply zC | apply zD | apply zE | apply zF | apply zG) <;> intro)
  all_goals first | exact hL | rfl | skip

theorem flight25 (s : Sq) (hf : s.fl.length < 1000000) : FnOK Try.prog 25 [.d (sqD s)] [] (.d (.int .i64 (rFlight s))) [] := by
  have h := loops_n (P := Try.prog) (k := 0) (c := loopN Try.prog 25 0) (e := .exit 0) (I := fun j => (I25 s ((s.fl.take j).foldl flS 0) j).as 35) (by simp) s.fl.length 0 (by omega) (fun j _ hj => by
    have hn := get_of hj
    show Runs _ _ _ _ _ ((I25 s ((s.fl.take (j + 1)).foldl flS 0) (j + 1)).as _)
    rw [take_snoc hn, List.foldl_append]
    show Runs _ _ _ _ _ ((I25 s (flS ((s.fl.take j).foldl flS 0) s.fl[j]) (j + 1)).as _)
    unfold flS
    split
    · next g => exact s25 s hf _ j _ hn (by rw [g]; rfl)
    · next g => exact r25 s hf _ j _ hn (by cases q : s.fl[j].l; rfl; exact absurd q g)) (by simp only [List.take_length]; exact q25 s _)
  exact flight25w s _ h
set_option maxRecDepth 100000 in
set_option maxHeartbeats 1000000 in
theorem room27 (s : Sq) : FnOK Try.prog 27 ([.d (sqD s)]) ([]) (.d (.int .i64 (IntKind.i64.wrap (4096 - (s.d.length : Int))))) ([]) := by
  refine fnOK_wp (p := (AV.d (.int .i64 (IntKind.i64.wrap ((4096 : Int) - (↑s.d.length : Int)))) = AV.d (.int .i64 (IntKind.i64.wrap ((4096 : Int) - (↑s.d.length : Int))))) ∧ (True)) (h := {}) (subs := []) (ws := []) (ρ := []) (by kernel_rfl) ?_
  repeat' (with_reducible first | exact True.intro | apply And.intro | (first | apply zA | apply zB | apply zC | apply zD | apply zE | apply zF | apply zG) <;> intro)
  all_goals first | rfl | skip

/-! ### Write -/
set_option maxRecDepth 100000 in
set_option maxHeartbeats 1000000 in
theorem write11a (s : Sq) (x : List UInt8) (e : Int) (k1 : FnOK Try.prog 23 [.d (sqD s)] [] (.d (.int .i64 e)) []) (he : e ≠ 0) (k3 hm hq : True) : FnOK Try.prog 11 ([.d (sqD s), .d (.str x)]) ([]) (.tup [.d (sqD s), .d (.int .i64 0)]) ([]) := by
  refine fnOK_wp (p := (FnOK Try.prog 23 [AV.d (.agg [D.int .i64 s.b, D.str s.d, D.int .i64 s.n, D.sl (List.map ckD s.fl), D.sl (List.map ivD s.cm)])] [] (AV.d (.int .i64 e)) []) ∧ ((D.bool (e != (0 : Int)) = D.bool true) ∧ ((AV.tup [AV.d (.agg [D.int .i64 s.b, D.str s.d, D.int .i64 s.n, D.sl (List.map ckD s.fl), D.sl (List.map ivD s.cm)]), AV.d (.int .i64 (0 : Int))] = AV.tup [AV.d (.agg [D.int .i64 s.b, D.str s.d, D.int .i64 s.n, D.sl (List.map ckD s.fl), D.sl (List.map ivD s.cm)]), AV.d (.int .i64 (0 : Int))]) ∧ (True)))) (h := {G := [(23, gAns (.d (.int .i64 e)))], H := [(1, [(2, .val (.bool true))])]}) (subs := []) (ws := []) (ρ := []) (by kernel_rfl) ?_
  repeat' (with_reducible first | exact True.intro | apply And.intro | (first | apply zA | apply zB | apply zC | apply zD | apply zE | apply zF | apply zG) <;> intro)
  all_goals first | exact k1 | exact k3 | exact congrArg (D.int .i64) hm | rfl | omega | exact dyes (by omega) | exact dno (by omega) | (refine congrArg D.bool ?_; simp [he]; done) | (refine congrArg D.bool ?_; exact hq) | (simp; omega) | skip

set_option maxRecDepth 100000 in
set_option maxHeartbeats 1000000 in
theorem write11b (s : Sq) (x : List UInt8) (e : Int) (k1 : FnOK Try.prog 23 [.d (sqD s)] [] (.d (.int .i64 e)) []) (he : e = 0) (r m : Int) (k3 : FnOK Try.prog 27 [.d (sqD s)] [] (.d (.int .i64 r)) []) (hm : min (x.length : Int) r = m) (hq : decide (IntKind.i64.wrap (IntKind.i64.wrap (s.b + (s.d.length : Int)) + m) > 1099511623680) = true) : FnOK Try.prog 11 ([.d (sqD s), .d (.str x)]) ([]) (.tup [.d (sqD s), .d (.int .i64 0)]) ([]) := by
  refine fnOK_wp (p := (FnOK Try.prog 23 [AV.d (.agg [D.int .i64 s.b, D.str s.d, D.int .i64 s.n, D.sl (List.map ckD s.fl), D.sl (List.map ivD s.cm)])] [] (AV.d (.int .i64 e)) []) ∧ ((D.bool (e != (0 : Int)) = D.bool false) ∧ ((FnOK Try.prog 27 [AV.d (.agg [D.int .i64 s.b, D.str s.d, D.int .i64 s.n, D.sl (List.map ckD s.fl), D.sl (List.map ivD s.cm)])] [] (AV.d (.int .i64 r)) []) ∧ ((D.int .i64 (min (↑x.length : Int) r) = D.int .i64 m) ∧ ((D.bool (decide (IntKind.i64.wrap (IntKind.i64.wrap (s.b + (↑s.d.length : Int)) + m) > (1099511623680 : Int))) = D.bool true) ∧ ((AV.tup [AV.d (.agg [D.int .i64 s.b, D.str s.d, D.int .i64 s.n, D.sl (List.map ckD s.fl), D.sl (List.map ivD s.cm)]), AV.d (.int .i64 (0 : Int))] = AV.tup [AV.d (.agg [D.int .i64 s.b, D.str s.d, D.int .i64 s.n, D.sl (List.map ckD s.fl), D.sl (List.map ivD s.cm)]), AV.d (.int .i64 (0 : Int))]) ∧ (True))))))) (h := {G := [(23, gAns (.d (.int .i64 e))), (27, gAns (.d (.int .i64 r)))], H := [(1, [(2, .val (.bool false))]), (3, [(4, .val (.int .i64 m))]), (4, [(8, .val (.bool true))])]}) (subs := []) (ws := []) (ρ := []) (by kernel_rfl) ?_
  repeat' (with_reducible first | exact True.intro | apply And.intro | (first | apply zA | apply zB | apply zC | apply zD | apply zE | apply zF | apply zG) <;> intro)
  all_goals first | exact k1 | exact k3 | exact congrArg (D.int .i64) hm | rfl | omega | exact dyes (by omega) | exact dno (by omega) | (refine congrArg D.bool ?_; simp [he]; done) | (refine congrArg D.bool ?_; exact hq) | (simp; omega) | skip

set_option maxRecDepth 100000 in
set_option maxHeartbeats 1000000 in
theorem write11c (s : Sq) (x : List UInt8) (e : Int) (k1 : FnOK Try.prog 23 [.d (sqD s)] [] (.d (.int .i64 e)) []) (he : e = 0) (r m : Int) (k3 : FnOK Try.prog 27 [.d (sqD s)] [] (.d (.int .i64 r)) []) (hm : min (x.length : Int) r = m) (hm0 : 0 ≤ m) (hm1 : m ≤ x.length) (hsd : s.d.length < 100000) (hxl : x.length < 100000000) (hq : decide (IntKind.i64.wrap (IntKind.i64.wrap (s.b + (s.d.length : Int)) + m) > 1099511623680) = false) : FnOK Try.prog 11 ([.d (sqD s), .d (.str x)]) ([]) (.tup [.d (sqD { s with d := s.d ++ x.take m.toNat }), .d (.int .i64 m)]) ([]) := by
  refine fnOK_wp (p := (FnOK Try.prog 23 [AV.d (.agg [D.int .i64 s.b, D.str s.d, D.int .i64 s.n, D.sl (List.map ckD s.fl), D.sl (List.map ivD s.cm)])] [] (AV.d (.int .i64 e)) []) ∧ ((D.bool (e != (0 : Int)) = D.bool false) ∧ ((FnOK Try.prog 27 [AV.d (.agg [D.int .i64 s.b, D.str s.d, D.int .i64 s.n, D.sl (List.map ckD s.fl), D.sl (List.map ivD s.cm)])] [] (AV.d (.int .i64 r)) []) ∧ ((D.int .i64 (min (↑x.length : Int) r) = D.int .i64 m) ∧ ((D.bool (decide (IntKind.i64.wrap (IntKind.i64.wrap (s.b + (↑s.d.length : Int)) + m) > (1099511623680 : Int))) = D.bool false) ∧ (((0 : Int) ≤ (0 : Int) ∧ (0 : Int) ≤ m ∧ m ≤ (↑x.length : Int)) ∧ (((↑(s.d.length + (List.drop 0 (List.take m.toNat x)).length) : Int) ≤ (9223372036854775807 : Int)) ∧ ((AV.tup [AV.d (.agg [D.int .i64 s.b, D.str (s.d ++ List.drop 0 (List.take m.toNat x)), D.int .i64 s.n, D.sl (List.map ckD s.fl), D.sl (List.map ivD s.cm)]), AV.d (.int .i64 m)] = AV.tup [AV.d (.agg [D.int .i64 (Sq.mk s.b (s.d ++ List.take m.toNat x) s.n s.fl s.cm).b, D.str (Sq.mk s.b (s.d ++ List.take m.toNat x) s.n s.fl s.cm).d, D.int .i64 (Sq.mk s.b (s.d ++ List.take m.toNat x) s.n s.fl s.cm).n, D.sl (List.map ckD (Sq.mk s.b (s.d ++ List.take m.toNat x) s.n s.fl s.cm).fl), D.sl (List.map ivD (Sq.mk s.b (s.d ++ List.take m.toNat x) s.n s.fl s.cm).cm)]), AV.d (.int .i64 m)]) ∧ (True))))))))) (h := {G := [(23, gAns (.d (.int .i64 e))), (27, gAns (.d (.int .i64 r)))], H := [(1, [(2, .val (.bool false))]), (3, [(4, .val (.int .i64 m))]), (4, [(8, .val (.bool false))])]}) (subs := []) (ws := []) (ρ := []) (by kernel_rfl) ?_
  have hmx : IntKind.i64.max = 9223372036854775807 := by decide
  repeat' (with_reducible first | exact True.intro | apply And.intro | (first | apply zA | apply zB | apply zC | apply zD | apply zE | apply zF | apply zG) <;> intro)
  all_goals first | exact k1 | exact k3 | exact congrArg (D.int .i64) hm | rfl | omega | exact dyes (by omega) | exact dno (by omega) | (refine congrArg D.bool ?_; simp [he]; done) | (refine congrArg D.bool ?_; exact hq) | (simp; omega) | skip

theorem write11 (s : Sq) (h : SqOk s) (hk : sChkR s = sChk s) (x : List UInt8) (hx : x.length < 100000000) : FnOK Try.prog 11 [.d (sqD s), .d (.str x)] [] (.tup [.d (sqD (rWrite s x).1), .d (.int .i64 (rWrite s x).2)]) [] := by
  have k1 := chk23 s (by have := h.fl; omega) (by have := h.cm; omega)
  have k3 := room27 s
  rw [hk] at k1
  unfold rWrite
  by_cases he : sChk s = 0
  · obtain ⟨⟨c1, c2, c3, c4⟩, c5, -⟩ := sChk_ok h.n.2 he
    rw [if_neg (by omega)]
    have e1 : IntKind.i64.wrap (4096 - (s.d.length : Int)) = 4096 - (s.d.length : Int) := wrap_in (by omega) (by omega)
    rw [e1] at k3
    have hN : wrN s x = min (x.length : Int) (4096 - (s.d.length : Int)) := rfl
    have e2 : IntKind.i64.wrap (IntKind.i64.wrap (s.b + (s.d.length : Int)) + wrN s x) = s.b + (s.d.length : Int) + wrN s x := by
      unfold lastP at c2
      rw [wrap_in (x := s.b + (s.d.length : Int)) (by omega) (by omega)]
      exact wrap_in (by omega) (by omega)
    have el : lastP = 1099511623680 := rfl
    by_cases g : s.b + (s.d.length : Int) > lastP - wrN s x
    · rw [if_pos g]
      exact write11b s x _ k1 he _ (wrN s x) k3 rfl (by rw [e2]; exact decide_eq_true (by omega))
    · rw [if_neg g]
      exact write11c s x _ k1 he _ (wrN s x) k3 rfl (by omega) (by omega) (by have := h.d; omega) hx (by rw [e2]; exact decide_eq_false (by omega))
  · rw [if_pos he]
    exact write11a s x _ k1 he trivial trivial trivial
/-! ### One turned; a chunk's bytes -/
set_option maxRecDepth 100000 in
set_option maxHeartbeats 1000000 in
theorem with41 (l : List Ck) (hl : l.length < 1000000) (i : Nat) (c c0 : Ck) (hn : l[i]? = some c0) : FnOK Try.prog 41 ([.d (.sl (l.map ckD)), .d (.int .i64 i), .d (ckD c)]) ([]) (.d (.sl ((l.set i c).map ckD))) ([]) := by
  refine fnOK_wp (p := ((0 + (List.map ckD l).length) * 40 ≤ 140737488355328) ∧ ((∀ (e : D), e ∈ List.map ckD l → e.cells.length = 5) ∧ (((0 : Int) ≤ (↑i : Int) ∧ (↑i : Int) < (↑([] ++ List.map ckD l).length : Int)) ∧ ((5 = 5) ∧ ((([] ++ List.map ckD l)[(↑i : Int).toNat]? = some (D.agg [D.int .i64 c0.f, D.int .i64 c0.t, D.int .i64 c0.s, D.int .i64 c0.r, D.bool c0.l])) ∧ ((AV.d (.sl (([] ++ List.map ckD l).set (↑i : Int).toNat (D.agg (List.take 0 [D.int .i64 c0.f, D.int .i64 c0.t, D.int .i64 c0.s, D.int .i64 c0.r, D.bool c0.l] ++ [D.int .i64 c.f, D.int .i64 c.t, D.int .i64 c.s, D.int .i64 c.r, D.bool c.l] ++ List.drop (0 + [D.int .i64 c.f, D.int .i64 c.t, D.int .i64 c.s, D.int .i64 c.r, D.bool c.l].length) [D.int .i64 c0.f, D.int .i64 c0.t, D.int .i64 c0.s, D.int .i64 c0.r, D.bool c0.l])))) = AV.d (.sl (List.map ckD (l.set i c)))) ∧ (True))))))) (h := {els := [(14, .el (ckD c0))]}) (subs := []) (ws := []) (ρ := []) (by kernel_rfl) ?_
  have hj := get_lt hn
  have h0 : (l.map ckD)[i]? = some (ckD c0) := by rw [List.getElem?_map, hn]; rfl
  have hD : (l.map ckD).set i (ckD c) = (l.set i c).map ckD := (List.map_set ..).symm
  simp only [Int.toNat_natCast, List.nil_append]
  repeat' (with_reducible first | exact True.intro | apply And.intro | (first | apply zA | apply zB | apply zC | apply zD | apply zE | apply zF | apply zG) <;> intro)
  all_goals first | exact h0 | exact hD | exact congrArg D.sl hD | exact congrArg (fun z => AV.d (.sl z)) hD | exact ckD_sz _ | rfl | omega | (simp; omega) | (rw [List.length_map]; omega) | skip

set_option maxRecDepth 100000 in
set_option maxHeartbeats 1000000 in
theorem bytes42 (s : Sq) (c : Ck) (x y : Int) (hx : IntKind.i64.wrap (c.f - s.b) = x) (hy : IntKind.i64.wrap (c.t - s.b) = y) (h0 : 0 ≤ x) (h1 : x ≤ y) (h2 : y ≤ s.d.length) : FnOK Try.prog 42 ([.d (sqD s), .d (ckD c)]) ([]) (.d (.str ((s.d.drop x.toNat).take (y.toNat - x.toNat)))) ([]) := by
  refine fnOK_wp (p := (D.int .i64 (IntKind.i64.wrap (c.f - s.b)) = D.int .i64 x) ∧ ((D.int .i64 (IntKind.i64.wrap (c.t - s.b)) = D.int .i64 y) ∧ (((0 : Int) ≤ x ∧ x ≤ y ∧ y ≤ (↑s.d.length : Int)) ∧ ((AV.d (.str (List.drop x.toNat (List.take y.toNat s.d))) = AV.d (.str (List.take (y.toNat - x.toNat) (List.drop x.toNat s.d)))) ∧ (True))))) (h := {H := [(1, [(6, .val (.int .i64 x)), (11, .val (.int .i64 y))])]}) (subs := []) (ws := []) (ρ := []) (by kernel_rfl) ?_
  repeat' (with_reducible first | exact True.intro | apply And.intro | (first | apply zA | apply zB | apply zC | apply zD | apply zE | apply zF | apply zG) <;> intro)
  all_goals first | exact congrArg (D.int .i64) hx | exact congrArg (D.int .i64) hy | rfl | omega | (refine congrArg (fun z => AV.d (.str z)) ?_; rw [List.drop_take]; done) | skip

/-! ### The first that is lost -/
def I40 (s : Sq) (j : Nat) : St := ⟨[(1, .ptr 0 0), (3, .d (.int .i64 j))], [(0, sqB s)]⟩
set_option maxRecDepth 100000 in
set_option maxHeartbeats 1000000 in
theorem r40 (s : Sq) (hl : s.fl.length < 1000000) (j : Nat) (c : Ck) (hn : s.fl[j]? = some c) (hq : D.bool c.l = D.bool false) : Runs Try.prog 0 (loopN Try.prog 40 0) (St.as (I40 s j) 18) (.normal) (St.as (I40 s (j+1)) 18) := by
  refine round_wp (p := condP (decide ((↑j : Int) < (↑(List.map ckD s.fl).length : Int))) (((0 : Int) ≤ (↑j : Int)) ∧ (((List.map ckD s.fl)[(↑j : Int).toNat]? = some (D.agg [D.int .i64 c.f, D.int .i64 c.t, D.int .i64 c.s, D.int .i64 c.r, D.bool c.l])) ∧ ((D.bool c.l = D.bool false) ∧ ((AV.ptr 0 0 = AV.ptr 0 0) ∧ ((AV.d (.int .i64 (IntKind.i64.wrap ((↑j : Int) + (1 : Int)))) = AV.d (.int .i64 (↑(j + 1) : Int))) ∧ ((Ob.box [AV.d (.int .i64 s.b), AV.d (.str s.d), AV.d (.int .i64 s.n), AV.d (.sl (List.map ckD s.fl)), AV.d (.sl (List.map ivD s.cm))] = Ob.box [AV.d (.int .i64 s.b), AV.d (.str s.d), AV.d (.int .i64 s.n), AV.d (.sl (List.map ckD s.fl)), AV.d (.sl (List.map ivD s.cm))]) ∧ (True))))))) (False)) (h := {els := [(12, .el (ckD c))], H := [(4, [(5, .val (.bool false))])]}) (subs := []) (ws := []) (ρ := []) (by kernel_rfl) ?_
  have hj := get_lt hn
  have hi := inc_i64 (j := j) (by omega)
  try simp only [hi]
  simp only [List.length_map]
  refine condP_t (by rw [decide_eq_true_eq]; omega) ?_
  repeat' (with_reducible first | exact True.intro | apply And.intro | (first | apply zA | apply zB | apply zC | apply zD | apply zE | apply zF | apply zG) <;> intro)
  all_goals first | exact hq | exact el_map hn rfl | rfl | omega | skip

set_option maxRecDepth 100000 in
set_option maxHeartbeats 1000000 in
theorem e40 (s : Sq) (hl : s.fl.length < 1000000) (j : Nat) (c : Ck) (hn : s.fl[j]? = some c) (hq : D.bool c.l = D.bool true) : Runs Try.prog 0 (loopN Try.prog 40 0) (St.as (I40 s j) 18) (.ret) (St.as (⟨[(2, .d (.int .i64 j))], []⟩) 18) := by
  refine round_wp (p := condP (decide ((↑j : Int) < (↑(List.map ckD s.fl).length : Int))) (((0 : Int) ≤ (↑j : Int)) ∧ (((List.map ckD s.fl)[(↑j : Int).toNat]? = some (D.agg [D.int .i64 c.f, D.int .i64 c.t, D.int .i64 c.s, D.int .i64 c.r, D.bool c.l])) ∧ ((D.bool c.l = D.bool true) ∧ ((AV.d (.int .i64 (↑j : Int)) = AV.d (.int .i64 (↑j : Int))) ∧ (True))))) (False)) (h := {els := [(12, .el (ckD c))], H := [(4, [(5, .val (.bool true))])]}) (subs := []) (ws := []) (ρ := []) (by kernel_rfl) ?_
  have hj := get_lt hn
  have hi := inc_i64 (j := j) (by omega)
  try simp only [hi]
  simp only [List.length_map]
  refine condP_t (by rw [decide_eq_true_eq]; omega) ?_
  repeat' (with_reducible first | exact True.intro | apply And.intro | (first | apply zA | apply zB | apply zC | apply zD | apply zE | apply zF | apply zG) <;> intro)
  all_goals first | exact hq | exact el_map hn rfl | rfl | omega | skip

set_option maxRecDepth 100000 in
set_option maxHeartbeats 1000000 in
theorem q40 (s : Sq) : Runs Try.prog 0 (loopN Try.prog 40 0) (St.as (I40 s s.fl.length) 18) (.exit 0) (St.as (I40 s s.fl.length) 18) := by
  refine round_wp (p := condP (decide ((↑s.fl.length : Int) < (↑(List.map ckD s.fl).length : Int))) (False) ((AV.ptr 0 0 = AV.ptr 0 0) ∧ ((AV.d (.int .i64 (↑s.fl.length : Int)) = AV.d (.int .i64 (↑s.fl.length : Int))) ∧ ((Ob.box [AV.d (.int .i64 s.b), AV.d (.str s.d), AV.d (.int .i64 s.n), AV.d (.sl (List.map ckD s.fl)), AV.d (.sl (List.map ivD s.cm))] = Ob.box [AV.d (.int .i64 s.b), AV.d (.str s.d), AV.d (.int .i64 s.n), AV.d (.sl (List.map ckD s.fl)), AV.d (.sl (List.map ivD s.cm))]) ∧ (True))))) (h := {}) (subs := []) (ws := []) (ρ := []) (by kernel_rfl) ?_
  repeat' (with_reducible first | exact True.intro | apply And.intro | (first | apply zA | apply zB | apply zC | apply zD | apply zE | apply zF | apply zG) <;> intro)
  all_goals (try simp only [List.length_map, AV.d.injEq, D.int.injEq, D.bool.injEq, D.str.injEq, D.sl.injEq, true_and, and_true, decide_eq_true_eq, decide_eq_false_iff_not, decide_eq_decide])
  all_goals (try simp only [List.length_map] at *)
  all_goals first | rfl | omega

set_option maxRecDepth 100000 in
set_option maxHeartbeats 1000000 in
theorem again40n (s : Sq) (hL : Loops Try.prog 0 (loopN Try.prog 40 0) ((I40 s 0).as 18) (.exit 0) ((I40 s s.fl.length).as 18)) : FnOK Try.prog 40 ([.d (sqD s)]) ([]) (.d (.int .i64 (-1))) ([]) := by
  refine fnOK_wp (p := (AV.ptr 1008 0 = AV.ptr 1008 0) ∧ ((AV.d (.int .i64 (0 : Int)) = AV.d (.int .i64 (0 : Int))) ∧ ((Ob.box [AV.d (.int .i64 s.b), AV.d (.str s.d), AV.d (.int .i64 s.n), AV.d (.sl (List.map ckD s.fl)), AV.d (.sl (List.map ivD s.cm))] = Ob.box [AV.d (.int .i64 s.b), AV.d (.str s.d), AV.d (.int .i64 s.n), AV.d (.sl (List.map ckD s.fl)), AV.d (.sl (List.map ivD s.cm))]) ∧ ((LoopsS Try.prog 0 (loopN Try.prog 40 0) (I40 s 0) (Exit.exit 0) (I40 s s.fl.length) 18) ∧ ((AV.d (.int .i64 (-1 : Int)) = AV.d (.int .i64 (-1 : Int))) ∧ (True)))))) (h := {}) (subs := [⟨[], [], I40 s 0, .exit 0, I40 s s.fl.length⟩]) (ws := []) (ρ := []) (by kernel_rfl) ?_
  repeat' (with_reducible first | exact True.intro | apply And.intro | (first | apply zA | apply zB | apply zC | apply zD | apply zE | apply zF | apply zG) <;> intro)
  all_goals first | exact hL | rfl | skip

set_option maxRecDepth 100000 in
set_option maxHeartbeats 1000000 in
theorem again40y (s : Sq) (j : Nat) (hL : Loops Try.prog 0 (loopN Try.prog 40 0) ((I40 s 0).as 18) .ret ((⟨[(2, .d (.int .i64 j))], []⟩ : St).as 18)) : FnOK Try.prog 40 ([.d (sqD s)]) ([]) (.d (.int .i64 j)) ([]) := by
  refine fnOK_wp (p := (AV.ptr 1008 0 = AV.ptr 1008 0) ∧ ((AV.d (.int .i64 (0 : Int)) = AV.d (.int .i64 (0 : Int))) ∧ ((Ob.box [AV.d (.int .i64 s.b), AV.d (.str s.d), AV.d (.int .i64 s.n), AV.d (.sl (List.map ckD s.fl)), AV.d (.sl (List.map ivD s.cm))] = Ob.box [AV.d (.int .i64 s.b), AV.d (.str s.d), AV.d (.int .i64 s.n), AV.d (.sl (List.map ckD s.fl)), AV.d (.sl (List.map ivD s.cm))]) ∧ ((LoopsS Try.prog 0 (loopN Try.prog 40 0) (I40 s 0) Exit.ret (St.mk [(2, AV.d (.int .i64 (↑j : Int)))] []) 18) ∧ ((AV.d (.int .i64 (↑j : Int)) = AV.d (.int .i64 (↑j : Int))) ∧ (True)))))) (h := {}) (subs := [⟨[], [], I40 s 0, .ret, ⟨[(2, .d (.int .i64 j))], []⟩⟩]) (ws := []) (ρ := []) (by kernel_rfl) ?_
  repeat' (with_reducible first | exact True.intro | apply And.intro | (first | apply zA | apply zB | apply zC | apply zD | apply zE | apply zF | apply zG) <;> intro)
  all_goals first | exact hL | rfl | skip

theorem again40 (s : Sq) (hf : s.fl.length < 1000000) :
    ((∀ x ∈ s.fl, lostB x = false) ∧ FnOK Try.prog 40 [.d (sqD s)] [] (.d (.int .i64 (-1))) []) ∨ ∃ (m : Nat) (x : Ck), s.fl[m]? = some x ∧ lostB x = true ∧ (∀ (j : Nat) (y : Ck), j < m → s.fl[j]? = some y → lostB y = false) ∧ FnOK Try.prog 40 [.d (sqD s)] [] (.d (.int .i64 m)) [] := by
  rcases all_or (fun x => lostB x = false) s.fl with h | ⟨m, x, h1, h2, h3⟩
  · exact .inl ⟨h, again40n s (loops_n (I := fun j => (I40 s j).as 18) (by simp) s.fl.length 0 (by omega) (fun j _ hj => r40 s hf j _ (get_of hj) (congrArg D.bool (h _ (List.getElem_mem hj)))) (q40 s))⟩
  · have hm := get_lt h1
    have h2 : lostB x = true := by cases hw : lostB x; exact absurd hw h2; rfl
    exact .inr ⟨m, x, h1, h2, h3, again40y s m (loops_n (I := fun j => (I40 s j).as 18) (by simp) m 0 (by omega) (fun j _ hj => r40 s hf j _ (get_of (by omega)) (congrArg D.bool (h3 j _ hj (get_of (by omega))))) (e40 s hf m x h1 (congrArg D.bool h2)))⟩
end Go.Proofs.Ytfllhedkgeljaaa
