import Derived.Test.YtfllhedkgeljaaaM1
import Derived.Test.YtfllhedkgeljaaaC06S16

/-
laws 11: what is sent next.
-/
set_option linter.unusedSimpArgs false
set_option linter.unusedVariables false
namespace Go.Proofs.Ytfllhedkgeljaaa
open Sx Go.RowKit C06

def ck0 : Ck := ⟨0, 0, 0, 0, false⟩
def bytesOf (s : Sq) (c : Ck) : List UInt8 := (s.d.drop (c.f - s.b).toNat).take ((c.t - s.b).toNat - (c.f - s.b).toNat)
def lostB (c : Ck) : Bool := c.l
/-- How much is sent anew. -/
def pkN (s : Sq) (win limit : Int) : Int := min (min (min (s.b + (s.d.length : Int) - s.n) 48) (win - rFlight s)) (limit - s.n)
def pkC (s : Sq) (now win limit : Int) : Ck := ⟨s.n, s.n + pkN s win limit, now, 1, false⟩
def rPick (s : Sq) (now win limit : Int) : Sq × Ck × List UInt8 :=
  if sChk s ≠ 0 ∨ tickB now = false then (s, ck0, [])
  else match s.fl.findIdx? lostB with
  | some i => match s.fl[i]? with
    | some c => if rFlight s = 0 ∨ rFlight s + (c.t - c.f) ≤ win then ({ s with fl := s.fl.set i (again c now) }, again c now, bytesOf s c) else (s, ck0, [])
    | none => (s, ck0, [])
  | none => if s.b + (s.d.length : Int) - s.n = 0 ∨ win ≤ rFlight s ∨ limit ≤ s.n then (s, ck0, [])
    else ({ s with n := s.n + pkN s win limit, fl := s.fl ++ [pkC s now win limit] }, pkC s now win limit, bytesOf s (pkC s now win limit))
def oAV (s : Sq) : AV := .agg [.d (.int .i64 s.b), .d (.str s.d), .d (.int .i64 s.n), .own 0 5, .d (.sl (s.cm.map ivD))]
set_option maxRecDepth 100000 in
set_option maxHeartbeats 1000000 in
theorem pick12a (s : Sq) (now win limit : Int) (k1 : FnOK Try.prog 33 [.d (sqD s)] [] (oAV s) [.row 5 (s.fl.map ckD)]) (k2 : FnOK Try.prog 34 [.d (.int .i64 now)] [] (.d (.bool (tickB now))) []) (ht : tickB now = false) (k3 k4 k5 k6 hm he hq : True) : FnOK Try.prog 12 ([.d (sqD s), .d (.int .i64 now), .d (.int .i64 win), .d (.int .i64 limit)]) ([]) (.tup [.d (sqD s), .d (ckD ck0), .d (.str [])]) ([]) := by
  refine fnOK_wp (p := (FnOK Try.prog 33 [AV.d (.agg [D.int .i64 s.b, D.str s.d, D.int .i64 s.n, D.sl (List.map ckD s.fl), D.sl (List.map ivD s.cm)])] [] (AV.agg [AV.d (.int .i64 s.b), AV.d (.str s.d), AV.d (.int .i64 s.n), AV.own 0 5, AV.d (.sl (List.map ivD s.cm))]) [Ob.row 5 (List.map ckD s.fl)]) ∧ ((FnOK Try.prog 34 [AV.d (.int .i64 now)] [] (AV.d (.bool (tickB now))) []) ∧ (((D.bool !tickB now) = D.bool true) ∧ ((AV.tup [AV.d (.agg [D.int .i64 s.b, D.str s.d, D.int .i64 s.n, D.sl (List.map ckD s.fl), D.sl (List.map ivD s.cm)]), AV.d (.agg [D.int .i64 (0 : Int), D.int .i64 (0 : Int), D.int .i64 (0 : Int), D.int .i64 (0 : Int), D.bool false]), AV.d (.str [])] = AV.tup [AV.d (.agg [D.int .i64 s.b, D.str s.d, D.int .i64 s.n, D.sl (List.map ckD s.fl), D.sl (List.map ivD s.cm)]), AV.d (.agg [D.int .i64 (0 : Int), D.int .i64 (0 : Int), D.int .i64 (0 : Int), D.int .i64 (0 : Int), D.bool false]), AV.d (.str [])]) ∧ (True))))) (h := {H := [(1, [(1, .call [] (oAV s) [.row 5 (s.fl.map ckD)])]), (2, [(1, .call [] (.d (.bool (tickB now))) []), (3, .val (.bool true))])]}) (subs := []) (ws := []) (ρ := []) (by kernel_rfl) ?_
  repeat' (with_reducible first | exact True.intro | apply And.intro | (first | apply zA | apply zB | apply zC | apply zD | apply zE | apply zF | apply zG) <;> intro)
  all_goals first | exact k1 | exact k2 | exact k3 | exact k4 | exact k5 | exact k6 | rfl | omega | exact congrArg (D.int .i64) hm | exact dyes (by omega) | exact dno (by omega) | (refine congrArg D.bool ?_; simp [ht]; done) | (refine congrArg D.bool ?_; simp [he]; done) | (refine congrArg D.bool ?_; exact hq) | skip

set_option maxRecDepth 100000 in
set_option maxHeartbeats 1000000 in
theorem pick12b (s : Sq) (now win limit : Int) (k1 : FnOK Try.prog 33 [.d (sqD s)] [] (oAV s) [.row 5 (s.fl.map ckD)]) (k2 : FnOK Try.prog 34 [.d (.int .i64 now)] [] (.d (.bool (tickB now))) []) (ht : tickB now = true) (e : Int) (k3 : FnOK Try.prog 28 [.d (sqD s)] [] (.d (.int .i64 e)) []) (he : e ≠ 0) (k4 k5 k6 hm hq : True) : FnOK Try.prog 12 ([.d (sqD s), .d (.int .i64 now), .d (.int .i64 win), .d (.int .i64 limit)]) ([]) (.tup [.d (sqD s), .d (ckD ck0), .d (.str [])]) ([]) := by
  refine fnOK_wp (p := (FnOK Try.prog 33 [AV.d (.agg [D.int .i64 s.b, D.str s.d, D.int .i64 s.n, D.sl (List.map ckD s.fl), D.sl (List.map ivD s.cm)])] [] (AV.agg [AV.d (.int .i64 s.b), AV.d (.str s.d), AV.d (.int .i64 s.n), AV.own 0 5, AV.d (.sl (List.map ivD s.cm))]) [Ob.row 5 (List.map ckD s.fl)]) ∧ ((FnOK Try.prog 34 [AV.d (.int .i64 now)] [] (AV.d (.bool (tickB now))) []) ∧ (((D.bool !tickB now) = D.bool false) ∧ ((FnOK Try.prog 28 [AV.d (.agg [D.int .i64 s.b, D.str s.d, D.int .i64 s.n, D.sl (List.map ckD s.fl), D.sl (List.map ivD s.cm)])] [] (AV.d (.int .i64 e)) []) ∧ ((D.bool (e != (0 : Int)) = D.bool true) ∧ ((AV.tup [AV.d (.agg [D.int .i64 s.b, D.str s.d, D.int .i64 s.n, D.sl (List.map ckD s.fl), D.sl (List.map ivD s.cm)]), AV.d (.agg [D.int .i64 (0 : Int), D.int .i64 (0 : Int), D.int .i64 (0 : Int), D.int .i64 (0 : Int), D.bool false]), AV.d (.str [])] = AV.tup [AV.d (.agg [D.int .i64 s.b, D.str s.d, D.int .i64 s.n, D.sl (List.map ckD s.fl), D.sl (List.map ivD s.cm)]), AV.d (.agg [D.int .i64 (0 : Int), D.int .i64 (0 : Int), D.int .i64 (0 : Int), D.int .i64 (0 : Int), D.bool false]), AV.d (.str [])]) ∧ (True))))))) (h := {H := [(1, [(1, .call [] (oAV s) [.row 5 (s.fl.map ckD)])]), (2, [(1, .call [] (.d (.bool (tickB now))) []), (3, .val (.bool false)), (5, .call [] (.d (.int .i64 e)) []), (7, .val (.bool true))])]}) (subs := []) (ws := []) (ρ := []) (by kernel_rfl) ?_
  repeat' (with_reducible first | exact True.intro | apply And.intro | (first | apply zA | apply zB | apply zC | apply zD | apply zE | apply zF | apply zG) <;> intro)
  all_goals first | exact k1 | exact k2 | exact k3 | exact k4 | exact k5 | exact k6 | rfl | omega | exact congrArg (D.int .i64) hm | exact dyes (by omega) | exact dno (by omega) | (refine congrArg D.bool ?_; simp [ht]; done) | (refine congrArg D.bool ?_; simp [he]; done) | (refine congrArg D.bool ?_; exact hq) | skip

set_option maxRecDepth 100000 in
set_option maxHeartbeats 1000000 in
theorem pick12c (s : Sq) (now win limit : Int) (k1 : FnOK Try.prog 33 [.d (sqD s)] [] (oAV s) [.row 5 (s.fl.map ckD)]) (k2 : FnOK Try.prog 34 [.d (.int .i64 now)] [] (.d (.bool (tickB now))) []) (ht : tickB now = true) (e : Int) (k3 : FnOK Try.prog 28 [.d (sqD s)] [] (.d (.int .i64 e)) []) (he : e = 0) (f : Int) (k4 : FnOK Try.prog 24 [.d (sqD s)] [] (.d (.int .i64 f)) []) (i : Nat) (c : Ck) (hn : s.fl[i]? = some c) (k5 : FnOK Try.prog 35 [.d (.sl (s.fl.map ckD)), .fn 36 []] [] (.d (.int .i64 i)) []) (hw : ¬(f = 0 ∨ f + (c.t - c.f) ≤ win)) (hz : cSz c = c.t - c.f) (hf : IntKind.i64.wrap (f + (c.t - c.f)) = f + (c.t - c.f)) (k6 hm hq : True) : FnOK Try.prog 12 ([.d (sqD s), .d (.int .i64 now), .d (.int .i64 win), .d (.int .i64 limit)]) ([]) (.tup [.d (sqD s), .d (ckD ck0), .d (.str [])]) ([]) := by
  refine fnOK_wp (p := (FnOK Try.prog 33 [AV.d (.agg [D.int .i64 s.b, D.str s.d, D.int .i64 s.n, D.sl (List.map ckD s.fl), D.sl (List.map ivD s.cm)])] [] (AV.agg [AV.d (.int .i64 s.b), AV.d (.str s.d), AV.d (.int .i64 s.n), AV.own 0 5, AV.d (.sl (List.map ivD s.cm))]) [Ob.row 5 (List.map ckD s.fl)]) ∧ ((FnOK Try.prog 34 [AV.d (.int .i64 now)] [] (AV.d (.bool (tickB now))) []) ∧ (((D.bool !tickB now) = D.bool false) ∧ ((FnOK Try.prog 28 [AV.d (.agg [D.int .i64 s.b, D.str s.d, D.int .i64 s.n, D.sl (List.map ckD s.fl), D.sl (List.map ivD s.cm)])] [] (AV.d (.int .i64 e)) []) ∧ ((D.bool (e != (0 : Int)) = D.bool false) ∧ ((FnOK Try.prog 24 [AV.d (.agg [D.int .i64 s.b, D.str s.d, D.int .i64 s.n, D.sl (List.map ckD s.fl), D.sl (List.map ivD s.cm)])] [] (AV.d (.int .i64 f)) []) ∧ ((FnOK Try.prog 35 [AV.d (.sl (List.map ckD s.fl)), AV.fn 36 []] [] (AV.d (.int .i64 (↑i : Int))) []) ∧ ((D.bool true = D.bool true) ∧ ((D.bool (f == (0 : Int)) = D.bool false) ∧ (((0 : Int) ≤ (↑i : Int) ∧ (↑i : Int) < (↑(List.map ckD s.fl).length : Int)) ∧ ((5 = 5) ∧ (((List.map ckD s.fl)[(↑i : Int).toNat]? = some (D.agg [D.int .i64 c.f, D.int .i64 c.t, D.int .i64 c.s, D.int .i64 c.r, D.bool c.l])) ∧ ((FnOK Try.prog 37 [AV.d (.agg [D.int .i64 c.f, D.int .i64 c.t, D.int .i64 c.s, D.int .i64 c.r, D.bool c.l])] [] (AV.d (.int .i64 (cSz c))) []) ∧ ((D.bool (decide (IntKind.i64.wrap (f + cSz c) ≤ win)) = D.bool false) ∧ ((AV.tup [AV.d (.agg [D.int .i64 s.b, D.str s.d, D.int .i64 s.n, D.sl (List.map ckD s.fl), D.sl (List.map ivD s.cm)]), AV.d (.agg [D.int .i64 (0 : Int), D.int .i64 (0 : Int), D.int .i64 (0 : Int), D.int .i64 (0 : Int), D.bool false]), AV.d (.str [])] = AV.tup [AV.d (.agg [D.int .i64 s.b, D.str s.d, D.int .i64 s.n, D.sl (List.map ckD s.fl), D.sl (List.map ivD s.cm)]), AV.d (.agg [D.int .i64 (0 : Int), D.int .i64 (0 : Int), D.int .i64 (0 : Int), D.int .i64 (0 : Int), D.bool false]), AV.d (.str [])]) ∧ (True)))))))))))))))) (h := {els := [(43, .el (ckD c))], H := [(1, [(1, .call [] (oAV s) [.row 5 (s.fl.map ckD)])]), (2, [(1, .call [] (.d (.bool (tickB now))) []), (3, .val (.bool false)), (5, .call [] (.d (.int .i64 e)) []), (7, .val (.bool false))]), (4, [(1, .call [] (.d (.int .i64 f)) [])]), (5, [(2, .call [] (.d (.int .i64 i)) [])]), (6, [(1, .val (.bool true))]), (7, [(2, .val (.bool false)), (9, .call [] (.d (.int .i64 (cSz c))) []), (13, .val (.bool false))])]}) (subs := []) (ws := []) (ρ := []) (by kernel_rfl) ?_
  have k7 := size37 c trivial trivial
  have hj := get_lt hn
  simp only [hz] at *
  repeat' (with_reducible first | exact True.intro | apply And.intro | (first | apply zA | apply zB | apply zC | apply zD | apply zE | apply zF | apply zG) <;> intro)
  all_goals first | exact k1 | exact k2 | exact k3 | exact k4 | exact k5 | exact k7 | exact el_map hn rfl | rfl | omega | (rw [hf]; exact dno (by omega)) | exact dyes (by omega) | exact dno (by omega) | (refine congrArg D.bool ?_; simp [ht]; done) | (refine congrArg D.bool ?_; simp [he]; done) | (refine congrArg D.bool ?_; rw [beq_eq_false_iff_ne]; omega) | (simp; omega) | skip

set_option maxRecDepth 100000 in
set_option maxHeartbeats 1000000 in
theorem pick12d (s : Sq) (now win limit : Int) (k1 : FnOK Try.prog 33 [.d (sqD s)] [] (oAV s) [.row 5 (s.fl.map ckD)]) (k2 : FnOK Try.prog 34 [.d (.int .i64 now)] [] (.d (.bool (tickB now))) []) (ht : tickB now = true) (e : Int) (k3 : FnOK Try.prog 28 [.d (sqD s)] [] (.d (.int .i64 e)) []) (he : e = 0) (f : Int) (k4 : FnOK Try.prog 24 [.d (sqD s)] [] (.d (.int .i64 f)) []) (i : Nat) (c : Ck) (hn : s.fl[i]? = some c) (k5 : FnOK Try.prog 35 [.d (.sl (s.fl.map ckD)), .fn 36 []] [] (.d (.int .i64 i)) []) (q : Bool) (hw : f = 0 ∨ f + (c.t - c.f) ≤ win) (hz : cSz c = c.t - c.f) (hf : IntKind.i64.wrap (f + (c.t - c.f)) = f + (c.t - c.f)) (s' : Sq) (c' : Ck) (t : List UInt8) (k6 : FnOK Try.prog 38 [oAV s, .d (.int .i64 i), .d (.int .i64 now)] [.row 5 (s.fl.map ckD)] (.tup [oAV s', .d (ckD c'), .d (.str t)]) [.row 5 (s'.fl.map ckD)]) : FnOK Try.prog 12 ([.d (sqD s), .d (.int .i64 now), .d (.int .i64 win), .d (.int .i64 limit)]) ([]) (.tup [.d (sqD s'), .d (ckD c'), .d (.str t)]) ([]) := by
  refine fnOK_wp (p := (FnOK Try.prog 33 [AV.d (.agg [D.int .i64 s.b, D.str s.d, D.int .i64 s.n, D.sl (List.map ckD s.fl), D.sl (List.map ivD s.cm)])] [] (AV.agg [AV.d (.int .i64 s.b), AV.d (.str s.d), AV.d (.int .i64 s.n), AV.own 0 5, AV.d (.sl (List.map ivD s.cm))]) [Ob.row 5 (List.map ckD s.fl)]) ∧ ((FnOK Try.prog 34 [AV.d (.int .i64 now)] [] (AV.d (.bool (tickB now))) []) ∧ (((D.bool !tickB now) = D.bool false) ∧ ((FnOK Try.prog 28 [AV.d (.agg [D.int .i64 s.b, D.str s.d, D.int .i64 s.n, D.sl (List.map ckD s.fl), D.sl (List.map ivD s.cm)])] [] (AV.d (.int .i64 e)) []) ∧ ((D.bool (e != (0 : Int)) = D.bool false) ∧ ((FnOK Try.prog 24 [AV.d (.agg [D.int .i64 s.b, D.str s.d, D.int .i64 s.n, D.sl (List.map ckD s.fl), D.sl (List.map ivD s.cm)])] [] (AV.d (.int .i64 f)) []) ∧ ((FnOK Try.prog 35 [AV.d (.sl (List.map ckD s.fl)), AV.fn 36 []] [] (AV.d (.int .i64 (↑i : Int))) []) ∧ ((D.bool true = D.bool true) ∧ (condP (f == (0 : Int)) ((D.bool (f == (0 : Int)) = D.bool true) ∧ ((D.bool true = D.bool true) ∧ ((FnOK Try.prog 38 [AV.agg [AV.d (.int .i64 s.b), AV.d (.str s.d), AV.d (.int .i64 s.n), AV.own 0 5, AV.d (.sl (List.map ivD s.cm))], AV.d (.int .i64 (↑i : Int)), AV.d (.int .i64 now)] [Ob.row 5 (List.map ckD s.fl)] (AV.tup [AV.agg [AV.d (.int .i64 s'.b), AV.d (.str s'.d), AV.d (.int .i64 s'.n), AV.own 0 5, AV.d (.sl (List.map ivD s'.cm))], AV.d (.agg [D.int .i64 c'.f, D.int .i64 c'.t, D.int .i64 c'.s, D.int .i64 c'.r, D.bool c'.l]), AV.d (.str t)]) [Ob.row 5 (List.map ckD s'.fl)]) ∧ ((AV.tup [AV.d (.agg [D.int .i64 s'.b, D.str s'.d, D.int .i64 s'.n, D.sl (List.map ckD s'.fl), D.sl (List.map ivD s'.cm)]), AV.d (.agg [D.int .i64 c'.f, D.int .i64 c'.t, D.int .i64 c'.s, D.int .i64 c'.r, D.bool c'.l]), AV.d (.str t)] = AV.tup [AV.d (.agg [D.int .i64 s'.b, D.str s'.d, D.int .i64 s'.n, D.sl (List.map ckD s'.fl), D.sl (List.map ivD s'.cm)]), AV.d (.agg [D.int .i64 c'.f, D.int .i64 c'.t, D.int .i64 c'.s, D.int .i64 c'.r, D.bool c'.l]), AV.d (.str t)]) ∧ (True))))) ((D.bool (f == (0 : Int)) = D.bool false) ∧ (((0 : Int) ≤ (↑i : Int) ∧ (↑i : Int) < (↑(List.map ckD s.fl).length : Int)) ∧ ((5 = 5) ∧ (((List.map ckD s.fl)[(↑i : Int).toNat]? = some (D.agg [D.int .i64 c.f, D.int .i64 c.t, D.int .i64 c.s, D.int .i64 c.r, D.bool c.l])) ∧ ((FnOK Try.prog 37 [AV.d (.agg [D.int .i64 c.f, D.int .i64 c.t, D.int .i64 c.s, D.int .i64 c.r, D.bool c.l])] [] (AV.d (.int .i64 (cSz c))) []) ∧ ((D.bool (decide (IntKind.i64.wrap (f + cSz c) ≤ win)) = D.bool true) ∧ ((FnOK Try.prog 38 [AV.agg [AV.d (.int .i64 s.b), AV.d (.str s.d), AV.d (.int .i64 s.n), AV.own 0 5, AV.d (.sl (List.map ivD s.cm))], AV.d (.int .i64 (↑i : Int)), AV.d (.int .i64 now)] [Ob.row 5 (List.map ckD s.fl)] (AV.tup [AV.agg [AV.d (.int .i64 s'.b), AV.d (.str s'.d), AV.d (.int .i64 s'.n), AV.own 0 5, AV.d (.sl (List.map ivD s'.cm))], AV.d (.agg [D.int .i64 c'.f, D.int .i64 c'.t, D.int .i64 c'.s, D.int .i64 c'.r, D.bool c'.l]), AV.d (.str t)]) [Ob.row 5 (List.map ckD s'.fl)]) ∧ ((AV.tup [AV.d (.agg [D.int .i64 s'.b, D.str s'.d, D.int .i64 s'.n, D.sl (List.map ckD s'.fl), D.sl (List.map ivD s'.cm)]), AV.d (.agg [D.int .i64 c'.f, D.int .i64 c'.t, D.int .i64 c'.s, D.int .i64 c'.r, D.bool c'.l]), AV.d (.str t)] = AV.tup [AV.d (.agg [D.int .i64 s'.b, D.str s'.d, D.int .i64 s'.n, D.sl (List.map ckD s'.fl), D.sl (List.map ivD s'.cm)]), AV.d (.agg [D.int .i64 c'.f, D.int .i64 c'.t, D.int .i64 c'.s, D.int .i64 c'.r, D.bool c'.l]), AV.d (.str t)]) ∧ (True)))))))))))))))))) (h := {els := [(43, .el (ckD c))], H := [(1, [(1, .call [] (oAV s) [.row 5 (s.fl.map ckD)])]), (2, [(1, .call [] (.d (.bool (tickB now))) []), (3, .val (.bool false)), (5, .call [] (.d (.int .i64 e)) []), (7, .val (.bool false))]), (4, [(1, .call [] (.d (.int .i64 f)) [])]), (5, [(2, .call [] (.d (.int .i64 i)) [])]), (6, [(1, .val (.bool true))]), (7, [(9, .call [] (.d (.int .i64 (cSz c))) []), (13, .val (.bool true))]), (8, [(3, .call [1144] (.tup [oAV s', .d (ckD c'), .d (.str t)]) [.row 5 (s'.fl.map ckD)])])]}) (subs := []) (ws := []) (ρ := []) (by kernel_rfl) ?_
  have k7 := size37 c trivial trivial
  have hj := get_lt hn
  simp only [hz] at *
  repeat' (with_reducible first | exact True.intro | apply And.intro | (first | apply zA | apply zB | apply zC | apply zD | apply zE | apply zF | apply zG) <;> intro)
  all_goals first | exact k1 | exact k2 | exact k3 | exact k4 | exact k5 | exact k6 | exact k7 | exact el_map hn rfl | rfl | omega | (rw [hf]; exact dyes (by omega)) | exact dyes (by omega) | exact dno (by omega) | (refine congrArg D.bool ?_; simp [ht]; done) | (refine congrArg D.bool ?_; simp [he]; done) | (refine congrArg D.bool ?_; simp_all; done) | (simp; omega) | (exfalso; simp_all; omega) | skip

set_option maxRecDepth 100000 in
set_option maxHeartbeats 1000000 in
theorem pick12e (s : Sq) (now win limit : Int) (k1 : FnOK Try.prog 33 [.d (sqD s)] [] (oAV s) [.row 5 (s.fl.map ckD)]) (k2 : FnOK Try.prog 34 [.d (.int .i64 now)] [] (.d (.bool (tickB now))) []) (ht : tickB now = true) (e : Int) (k3 : FnOK Try.prog 28 [.d (sqD s)] [] (.d (.int .i64 e)) []) (he : e = 0) (f : Int) (k4 : FnOK Try.prog 24 [.d (sqD s)] [] (.d (.int .i64 f)) []) (k5 : FnOK Try.prog 35 [.d (.sl (s.fl.map ckD)), .fn 36 []] [] (.d (.int .i64 (-1))) []) (l : Int) (hl : IntKind.i64.wrap (IntKind.i64.wrap (s.b + (s.d.length : Int)) - s.n) = l) (hw : l = 0 ∨ win ≤ f ∨ limit ≤ s.n) (k6 hm hq : True) : FnOK Try.prog 12 ([.d (sqD s), .d (.int .i64 now), .d (.int .i64 win), .d (.int .i64 limit)]) ([]) (.tup [.d (sqD s), .d (ckD ck0), .d (.str [])]) ([]) := by
  refine fnOK_wp (p := (FnOK Try.prog 33 [AV.d (.agg [D.int .i64 s.b, D.str s.d, D.int .i64 s.n, D.sl (List.map ckD s.fl), D.sl (List.map ivD s.cm)])] [] (AV.agg [AV.d (.int .i64 s.b), AV.d (.str s.d), AV.d (.int .i64 s.n), AV.own 0 5, AV.d (.sl (List.map ivD s.cm))]) [Ob.row 5 (List.map ckD s.fl)]) ∧ ((FnOK Try.prog 34 [AV.d (.int .i64 now)] [] (AV.d (.bool (tickB now))) []) ∧ (((D.bool !tickB now) = D.bool false) ∧ ((FnOK Try.prog 28 [AV.d (.agg [D.int .i64 s.b, D.str s.d, D.int .i64 s.n, D.sl (List.map ckD s.fl), D.sl (List.map ivD s.cm)])] [] (AV.d (.int .i64 e)) []) ∧ ((D.bool (e != (0 : Int)) = D.bool false) ∧ ((FnOK Try.prog 24 [AV.d (.agg [D.int .i64 s.b, D.str s.d, D.int .i64 s.n, D.sl (List.map ckD s.fl), D.sl (List.map ivD s.cm)])] [] (AV.d (.int .i64 f)) []) ∧ ((FnOK Try.prog 35 [AV.d (.sl (List.map ckD s.fl)), AV.fn 36 []] [] (AV.d (.int .i64 (-1 : Int))) []) ∧ ((D.int .i64 (IntKind.i64.wrap (IntKind.i64.wrap (s.b + (↑s.d.length : Int)) - s.n)) = D.int .i64 l) ∧ (condP (l == (0 : Int)) ((D.bool (l == (0 : Int)) = D.bool true) ∧ ((D.bool true = D.bool true) ∧ ((D.bool true = D.bool true) ∧ ((AV.tup [AV.d (.agg [D.int .i64 s.b, D.str s.d, D.int .i64 s.n, D.sl (List.map ckD s.fl), D.sl (List.map ivD s.cm)]), AV.d (.agg [D.int .i64 (0 : Int), D.int .i64 (0 : Int), D.int .i64 (0 : Int), D.int .i64 (0 : Int), D.bool false]), AV.d (.str [])] = AV.tup [AV.d (.agg [D.int .i64 s.b, D.str s.d, D.int .i64 s.n, D.sl (List.map ckD s.fl), D.sl (List.map ivD s.cm)]), AV.d (.agg [D.int .i64 (0 : Int), D.int .i64 (0 : Int), D.int .i64 (0 : Int), D.int .i64 (0 : Int), D.bool false]), AV.d (.str [])]) ∧ (True))))) (condP (decide (win ≤ f)) ((D.bool (l == (0 : Int)) = D.bool false) ∧ ((D.bool (decide (win ≤ f)) = D.bool true) ∧ ((D.bool true = D.bool true) ∧ ((AV.tup [AV.d (.agg [D.int .i64 s.b, D.str s.d, D.int .i64 s.n, D.sl (List.map ckD s.fl), D.sl (List.map ivD s.cm)]), AV.d (.agg [D.int .i64 (0 : Int), D.int .i64 (0 : Int), D.int .i64 (0 : Int), D.int .i64 (0 : Int), D.bool false]), AV.d (.str [])] = AV.tup [AV.d (.agg [D.int .i64 s.b, D.str s.d, D.int .i64 s.n, D.sl (List.map ckD s.fl), D.sl (List.map ivD s.cm)]), AV.d (.agg [D.int .i64 (0 : Int), D.int .i64 (0 : Int), D.int .i64 (0 : Int), D.int .i64 (0 : Int), D.bool false]), AV.d (.str [])]) ∧ (True))))) ((D.bool (l == (0 : Int)) = D.bool false) ∧ ((D.bool (decide (win ≤ f)) = D.bool false) ∧ ((D.bool (decide (limit ≤ s.n)) = D.bool true) ∧ ((AV.tup [AV.d (.agg [D.int .i64 s.b, D.str s.d, D.int .i64 s.n, D.sl (List.map ckD s.fl), D.sl (List.map ivD s.cm)]), AV.d (.agg [D.int .i64 (0 : Int), D.int .i64 (0 : Int), D.int .i64 (0 : Int), D.int .i64 (0 : Int), D.bool false]), AV.d (.str [])] = AV.tup [AV.d (.agg [D.int .i64 s.b, D.str s.d, D.int .i64 s.n, D.sl (List.map ckD s.fl), D.sl (List.map ivD s.cm)]), AV.d (.agg [D.int .i64 (0 : Int), D.int .i64 (0 : Int), D.int .i64 (0 : Int), D.int .i64 (0 : Int), D.bool false]), AV.d (.str [])]) ∧ (True))))))))))))))) (h := {H := [(1, [(1, .call [] (oAV s) [.row 5 (s.fl.map ckD)])]), (2, [(1, .call [] (.d (.bool (tickB now))) []), (3, .val (.bool false)), (5, .call [] (.d (.int .i64 e)) []), (7, .val (.bool false))]), (4, [(1, .call [] (.d (.int .i64 f)) [])]), (5, [(2, .call [] (.d (.int .i64 (-1))) [])]), (10, [(8, .val (.int .i64 l))]), (11, [(12, .val (.bool true))])]}) (subs := []) (ws := []) (ρ := []) (by kernel_rfl) ?_
  repeat' (with_reducible first | exact True.intro | apply And.intro | (first | apply zA | apply zB | apply zC | apply zD | apply zE | apply zF | apply zG) <;> intro)
  all_goals first | exact k1 | exact k2 | exact k3 | exact k4 | exact k5 | exact congrArg (D.int .i64) hl | rfl | omega | exact dyes (by omega) | exact dno (by omega) | (refine congrArg D.bool ?_; simp [ht]; done) | (refine congrArg D.bool ?_; simp [he]; done) | (exfalso; simp_all; omega) | (exfalso; omega) | skip

set_option maxRecDepth 100000 in
set_option maxHeartbeats 1000000 in
theorem pick12f (s : Sq) (now win limit : Int) (k1 : FnOK Try.prog 33 [.d (sqD s)] [] (oAV s) [.row 5 (s.fl.map ckD)]) (k2 : FnOK Try.prog 34 [.d (.int .i64 now)] [] (.d (.bool (tickB now))) []) (ht : tickB now = true) (e : Int) (k3 : FnOK Try.prog 28 [.d (sqD s)] [] (.d (.int .i64 e)) []) (he : e = 0) (f : Int) (k4 : FnOK Try.prog 24 [.d (sqD s)] [] (.d (.int .i64 f)) []) (k5 : FnOK Try.prog 35 [.d (.sl (s.fl.map ckD)), .fn 36 []] [] (.d (.int .i64 (-1))) []) (l : Int) (hl : IntKind.i64.wrap (IntKind.i64.wrap (s.b + (s.d.length : Int)) - s.n) = l) (hw : ¬(l = 0 ∨ win ≤ f ∨ limit ≤ s.n)) (hfl : s.fl.length < 1000000) (m u : Int) (hm : min (min (min l 48) (IntKind.i64.wrap (win - f))) (IntKind.i64.wrap (limit - s.n)) = m) (hu : IntKind.i64.wrap (s.n + m) = u) (c : Ck) (hc : c = ⟨s.n, u, now, 1, false⟩) (t : List UInt8) (k6 : FnOK Try.prog 39 [.d (sqD { s with n := u, fl := s.fl ++ [c] }), .d (ckD c)] [] (.d (.str t)) []) : FnOK Try.prog 12 ([.d (sqD s), .d (.int .i64 now), .d (.int .i64 win), .d (.int .i64 limit)]) ([]) (.tup [.d (sqD { s with n := u, fl := s.fl ++ [c] }), .d (ckD c), .d (.str t)]) ([]) := by
  refine fnOK_wp (p := (FnOK Try.prog 33 [AV.d (.agg [D.int .i64 s.b, D.str s.d, D.int .i64 s.n, D.sl (List.map ckD s.fl), D.sl (List.map ivD s.cm)])] [] (AV.agg [AV.d (.int .i64 s.b), AV.d (.str s.d), AV.d (.int .i64 s.n), AV.own 0 5, AV.d (.sl (List.map ivD s.cm))]) [Ob.row 5 (List.map ckD s.fl)]) ∧ ((FnOK Try.prog 34 [AV.d (.int .i64 now)] [] (AV.d (.bool (tickB now))) []) ∧ (((D.bool !tickB now) = D.bool false) ∧ ((FnOK Try.prog 28 [AV.d (.agg [D.int .i64 s.b, D.str s.d, D.int .i64 s.n, D.sl (List.map ckD s.fl), D.sl (List.map ivD s.cm)])] [] (AV.d (.int .i64 e)) []) ∧ ((D.bool (e != (0 : Int)) = D.bool false) ∧ ((FnOK Try.prog 24 [AV.d (.agg [D.int .i64 s.b, D.str s.d, D.int .i64 s.n, D.sl (List.map ckD s.fl), D.sl (List.map ivD s.cm)])] [] (AV.d (.int .i64 f)) []) ∧ ((FnOK Try.prog 35 [AV.d (.sl (List.map ckD s.fl)), AV.fn 36 []] [] (AV.d (.int .i64 (-1 : Int))) []) ∧ ((D.int .i64 (IntKind.i64.wrap (IntKind.i64.wrap (s.b + (↑s.d.length : Int)) - s.n)) = D.int .i64 l) ∧ ((D.bool (l == (0 : Int)) = D.bool false) ∧ ((D.bool (decide (win ≤ f)) = D.bool false) ∧ ((D.bool (decide (limit ≤ s.n)) = D.bool false) ∧ ((D.int .i64 (min (min (min l (48 : Int)) (IntKind.i64.wrap (win - f))) (IntKind.i64.wrap (limit - s.n))) = D.int .i64 m) ∧ ((D.int .i64 (IntKind.i64.wrap (s.n + m)) = D.int .i64 u) ∧ ((D.agg [D.int .i64 s.n, D.int .i64 u, D.int .i64 now, D.int .i64 (1 : Int), D.bool false] = D.agg [D.int .i64 c.f, D.int .i64 c.t, D.int .i64 c.s, D.int .i64 c.r, D.bool c.l]) ∧ ((((List.map ckD s.fl).length + [D.agg (List.take 5 [D.int .i64 c.f, D.int .i64 c.t, D.int .i64 c.s, D.int .i64 c.r, D.bool c.l])].length) * 40 ≤ 140737488355328) ∧ ((∀ (e : D), e ∈ chunk 5 1 [D.int .i64 c.f, D.int .i64 c.t, D.int .i64 c.s, D.int .i64 c.r, D.bool c.l] → e.cells.length = 5) ∧ ((FnOK Try.prog 39 [AV.d (.agg [D.int .i64 s.b, D.str s.d, D.int .i64 c.t, D.sl (List.map ckD s.fl ++ [D.agg (List.take 5 [D.int .i64 c.f, D.int .i64 c.t, D.int .i64 c.s, D.int .i64 c.r, D.bool c.l])]), D.sl (List.map ivD s.cm)]), AV.d (.agg [D.int .i64 c.f, D.int .i64 c.t, D.int .i64 c.s, D.int .i64 c.r, D.bool c.l])] [] (AV.d (.str t)) []) ∧ ((AV.tup [AV.d (.agg [D.int .i64 s.b, D.str s.d, D.int .i64 c.t, D.sl (List.map ckD s.fl ++ [D.agg (List.take 5 [D.int .i64 c.f, D.int .i64 c.t, D.int .i64 c.s, D.int .i64 c.r, D.bool c.l])]), D.sl (List.map ivD s.cm)]), AV.d (.agg [D.int .i64 c.f, D.int .i64 c.t, D.int .i64 c.s, D.int .i64 c.r, D.bool c.l]), AV.d (.str t)] = AV.tup [AV.d (.agg [D.int .i64 (Sq.mk s.b s.d u (s.fl ++ [c]) s.cm).b, D.str (Sq.mk s.b s.d u (s.fl ++ [c]) s.cm).d, D.int .i64 (Sq.mk s.b s.d u (s.fl ++ [c]) s.cm).n, D.sl (List.map ckD (Sq.mk s.b s.d u (s.fl ++ [c]) s.cm).fl), D.sl (List.map ivD (Sq.mk s.b s.d u (s.fl ++ [c]) s.cm).cm)]), AV.d (.agg [D.int .i64 c.f, D.int .i64 c.t, D.int .i64 c.s, D.int .i64 c.r, D.bool c.l]), AV.d (.str t)]) ∧ (True))))))))))))))))))) (h := {H := [(1, [(1, .call [] (oAV s) [.row 5 (s.fl.map ckD)])]), (2, [(1, .call [] (.d (.bool (tickB now))) []), (3, .val (.bool false)), (5, .call [] (.d (.int .i64 e)) []), (7, .val (.bool false))]), (4, [(1, .call [] (.d (.int .i64 f)) [])]), (5, [(2, .call [] (.d (.int .i64 (-1))) [])]), (10, [(8, .val (.int .i64 l))]), (11, [(2, .val (.bool false)), (7, .val (.bool false)), (12, .val (.bool false))]), (13, [(8, .val (.int .i64 m))]), (14, [(5, .val (.int .i64 u)), (7, .val (ckD c))]), (17, [(4, .call [] (.d (.str t)) [])])]}) (subs := []) (ws := []) (ρ := []) (by kernel_rfl) ?_
  subst hc
  have hcm : (s.fl ++ [(⟨s.n, u, now, 1, false⟩ : Ck)]).map ckD = s.fl.map ckD ++ [ckD ⟨s.n, u, now, 1, false⟩] := by simp
  have hk : FnOK Try.prog 39 [.d (.agg [.int .i64 s.b, .str s.d, .int .i64 u, .sl (s.fl.map ckD ++ [ckD ⟨s.n, u, now, 1, false⟩]), .sl (s.cm.map ivD)]), .d (ckD ⟨s.n, u, now, 1, false⟩)] [] (.d (.str t)) [] := by rw [← hcm]; exact k6
  have hz : AV.tup [.d (.agg [.int .i64 s.b, .str s.d, .int .i64 u, .sl (s.fl.map ckD ++ [ckD ⟨s.n, u, now, 1, false⟩]), .sl (s.cm.map ivD)]), .d (ckD ⟨s.n, u, now, 1, false⟩), .d (.str t)] = AV.tup [.d (sqD { s with n := u, fl := s.fl ++ [⟨s.n, u, now, 1, false⟩] }), .d (ckD ⟨s.n, u, now, 1, false⟩), .d (.str t)] := by rw [← hcm]; rfl
  repeat' (with_reducible first | exact True.intro | apply And.intro | (first | apply zA | apply zB | apply zC | apply zD | apply zE | apply zF | apply zG) <;> intro)
  all_goals first | exact hk | exact hz | exact k1 | exact k2 | exact k3 | exact k4 | exact k5 | exact k6 | exact congrArg (D.int .i64) hl | exact congrArg (D.int .i64) hm | exact congrArg (D.int .i64) hu | rfl | omega | (rw [hc]; rfl) | exact dyes (by omega) | exact dno (by omega) | (refine congrArg D.bool ?_; simp [ht]; done) | (refine congrArg D.bool ?_; simp [he]; done) | (refine congrArg D.bool ?_; rw [beq_eq_false_iff_ne]; omega) | (simp; omega) | (simp [chunk, ckD, D.cells]; done) | exact ckD_sz _ | skip

theorem flB_mem (s : Sq) : ∀ (l : List Ck) (a : Int), flB s l a = true → ∀ c ∈ l, ∃ a', a ≤ a' ∧ fitsB s c a' = true
  | [], a, _, c, hc => by cases hc
  | x :: l, a, h, c, hc => by
    unfold flB at h
    rw [Bool.and_eq_true] at h
    rcases List.mem_cons.1 hc with rfl | hc
    · exact ⟨a, Int.le_refl _, h.1⟩
    · obtain ⟨a', h1, h2⟩ := flB_mem s l x.t h.2 c hc
      have h3 := h.1
      unfold fitsB offB at h3
      rw [Bool.and_eq_true, Bool.not_eq_true', decide_eq_false_iff_not] at h3
      exact ⟨a', by omega, h2⟩
theorem fits_in {s : Sq} {c : Ck} {a : Int} (ha : 0 ≤ a) (hn : s.n ≤ 1099511632000) (h : fitsB s c a = true) : a ≤ c.f ∧ c.f < c.t ∧ c.t ≤ s.n ∧ c.t - c.f ≤ 48 ∧ cSz c = c.t - c.f ∧ (0 ≤ c.s ∧ c.s ≤ 1099511627776) ∧ (1 ≤ c.r ∧ c.r ≤ 1073741824) ∧ rGaps s.cm (ckI c) = [ckI c] := by
  unfold fitsB offB timB tickB at h
  simp only [Bool.and_eq_true, Bool.not_eq_true', decide_eq_false_iff_not, decide_eq_true_eq] at h
  obtain ⟨h1, ⟨⟨t1, t2⟩, t3, t4⟩, h3⟩ := h
  have hw : cSz c = c.t - c.f := wrap_in (by omega) (by omega)
  rw [hw] at h1
  exact ⟨by omega, by omega, by omega, by omega, hw, ⟨t1, t2⟩, ⟨by omega, t4⟩, h3⟩
theorem fl_bd (s : Sq) (hn : s.n ≤ 1099511632000) : ∀ (l : List Ck) (a m : Int), 0 ≤ a → a ≤ s.n → flB s l a = true → 0 ≤ m → m ≤ a → m ≤ l.foldl flS m ∧ l.foldl flS m ≤ m + (s.n - a)
  | [], a, m, _, _, _, _, _ => ⟨Int.le_refl _, by show m ≤ _; omega⟩
  | c :: l, a, m, ha, han, h, hm, hma => by
    unfold flB at h
    rw [Bool.and_eq_true] at h
    obtain ⟨f1, f2, f3, f4, f5, -⟩ := fits_in ha hn h.1
    show m ≤ l.foldl flS (flS m c) ∧ l.foldl flS (flS m c) ≤ _
    have e : m ≤ flS m c ∧ flS m c ≤ m + (c.t - a) ∧ flS m c ≤ c.t := by
      unfold flS
      split
      · omega
      · rw [f5, wrap_in (by omega) (by omega)]; omega
    have := fl_bd s hn l c.t (flS m c) (by omega) f3 h.2 (by omega) e.2.2
    omega
theorem flight_bd {s : Sq} (hn : s.n < 9223372036854775808) (h : sChk s = 0) : 0 ≤ rFlight s ∧ rFlight s ≤ s.n - s.b := by
  obtain ⟨⟨c1, c2, c3, c4⟩, c5, -, c7⟩ := sChk_ok hn h
  unfold lastP at c2
  have := fl_bd s (by omega) s.fl s.b 0 c1 c3 c7 (by omega) c1
  unfold rFlight
  omega
theorem pick12 (s : Sq) (h : SqOk s) (now win limit : Int) (hw : -9223372036854775808 ≤ win ∧ win < 9223372036854775808) (hl : -9223372036854775808 ≤ limit ∧ limit < 9223372036854775808) :
    FnOK Try.prog 12 [.d (sqD s), .d (.int .i64 now), .d (.int .i64 win), .d (.int .i64 limit)] [] (.tup [.d (sqD (rPick s now win limit).1), .d (ckD (rPick s now win limit).2.1), .d (.str (rPick s now win limit).2.2)]) [] := by
  have k1 := ownH s h
  have k2 := tick34 now trivial trivial
  have k3 := chk28 s (by have := h.fl; omega) (by have := h.cm; omega)
  have k4 := flight24 s (by have := h.fl; omega)
  unfold rPick
  cases ht : tickB now
  · rw [if_pos (.inr rfl)]
    exact pick12a s now win limit k1 k2 ht trivial trivial trivial trivial trivial trivial trivial
  · by_cases he : sChk s = 0
    · rw [if_neg (by simp [he])]
      have hfb := flight_bd h.n.2 he
      obtain ⟨⟨c1, c2, c3, c4⟩, c5, c6, c7⟩ := sChk_ok h.n.2 he
      unfold lastP at c2
      rcases ckD_firstA 36 lostB s.fl (by have := h.fl; omega) (fun x _ => lost36 x trivial trivial) with ⟨g1, g2⟩ | ⟨i, c, g1, g2, g3, g4⟩
      · have e0 : s.fl.findIdx? lostB = none := by rw [List.findIdx?_eq_none_iff]; exact g1
        rw [e0]
        have e1 : IntKind.i64.wrap (IntKind.i64.wrap (s.b + (s.d.length : Int)) - s.n) = s.b + (s.d.length : Int) - s.n := by
          rw [wrap_in (x := s.b + (s.d.length : Int)) (by omega) (by omega)]
          exact wrap_in (by omega) (by omega)
        dsimp only
        by_cases hq : s.b + (s.d.length : Int) - s.n = 0 ∨ win ≤ rFlight s ∨ limit ≤ s.n
        · simp only [if_pos hq]
          exact pick12e s now win limit k1 k2 ht _ k3 he _ k4 g2 _ e1 hq trivial trivial trivial
        · simp only [if_neg hq]
          have e2 : IntKind.i64.wrap (win - rFlight s) = win - rFlight s := wrap_in (by omega) (by omega)
          have e3 : IntKind.i64.wrap (limit - s.n) = limit - s.n := wrap_in (by omega) (by omega)
          have hp : 0 < pkN s win limit ∧ pkN s win limit ≤ s.b + (s.d.length : Int) - s.n := by unfold pkN; omega
          have e4 : IntKind.i64.wrap (s.n + pkN s win limit) = s.n + pkN s win limit := wrap_in (by omega) (by omega)
          refine pick12f s now win limit k1 k2 ht _ k3 he _ k4 g2 _ e1 hq (by have := h.fl; omega) (pkN s win limit) _ (by rw [e2, e3]; rfl) e4 _ rfl _ ?_
          exact text39 _ _ (s.n - s.b) (s.n + pkN s win limit - s.b) (wrap_in (by show _ ≤ s.n - s.b; omega) (by show s.n - s.b < _; omega)) (wrap_in (by show _ ≤ s.n + pkN s win limit - s.b; omega) (by show s.n + pkN s win limit - s.b < _; omega)) (by omega) (by omega) (by show _ ≤ (s.d.length : Int); omega)
      · have hlt := get_lt g1
        have e0 : s.fl.findIdx? lostB = some i := by
          rw [List.findIdx?_eq_some_iff_getElem]
          refine ⟨hlt, by rw [(List.getElem?_eq_some_iff.1 g1).2]; exact g2, fun j hj => ?_⟩
          rw [g3 j _ hj (get_of (by omega))]
          simp
        rw [e0]
        obtain ⟨a', ha1, ha2⟩ := flB_mem s s.fl s.b c7 c (get_mem g1)
        obtain ⟨f1, f2, f3, f4, f5, -⟩ := fits_in (by omega) (by omega) ha2
        have e5 : IntKind.i64.wrap (rFlight s + (c.t - c.f)) = rFlight s + (c.t - c.f) := wrap_in (by omega) (by omega)
        dsimp only
        simp only [g1]
        by_cases hq : rFlight s = 0 ∨ rFlight s + (c.t - c.f) ≤ win
        · simp only [if_pos hq]
          exact pick12d s now win limit k1 k2 ht _ k3 he _ k4 i c g1 g4 true hq f5 e5 { s with fl := s.fl.set i (again c now) } (again c now) _ (repeat38 s i now c g1 (c.f - s.b) (c.t - s.b) (wrap_in (by omega) (by omega)) (wrap_in (by omega) (by omega)) (by omega) (by omega) (by omega))
        · simp only [if_neg hq]
          exact pick12c s now win limit k1 k2 ht _ k3 he _ k4 i c g1 g4 hq f5 e5 trivial trivial trivial
    · rw [if_pos (.inl he)]
      exact pick12b s now win limit k1 k2 ht _ k3 he trivial trivial trivial trivial trivial
end Go.Proofs.Ytfllhedkgeljaaa


/-
laws 11: what counts as lost, the oldest tick, whether two are one: both sides; states handed over.
-/
set_option linter.unusedSimpArgs false
set_option linter.unusedVariables false
namespace Go.Proofs.Ytfllhedkgeljaaa
open Sx Go.RowKit C06

def lose1 (c : Ck) : Ck := { c with l := true }
def rExpire (s : Sq) : Sq × Bool := ({ s with fl := s.fl.map lose1 }, s.fl.any (fun c => !c.l))
/-- Rows half turned. -/
def mapTo (f : Ck → Ck) (l : List Ck) (j : Nat) : List Ck := (l.take j).map f ++ l.drop j
theorem mapTo_zero (f : Ck → Ck) (l : List Ck) : mapTo f l 0 = l := by simp [mapTo]
theorem mapTo_len (f : Ck → Ck) (l : List Ck) (j : Nat) : (mapTo f l j).length = l.length := by simp [mapTo]; omega
theorem mapTo_end (f : Ck → Ck) (l : List Ck) : mapTo f l l.length = l.map f := by simp [mapTo]
theorem mapTo_get (f : Ck → Ck) {l : List Ck} {j : Nat} {c : Ck} (h : l[j]? = some c) : (mapTo f l j)[j]? = some c := by
  have hj := get_lt h
  unfold mapTo
  rw [List.getElem?_append_right (by simp; omega)]
  simp only [List.length_map, List.length_take, Nat.min_eq_left (Nat.le_of_lt hj), Nat.sub_self, List.getElem?_drop, Nat.add_zero]
  exact h
theorem mapTo_set (f : Ck → Ck) {l : List Ck} {j : Nat} {c : Ck} (h : l[j]? = some c) : (mapTo f l j).set j (f c) = mapTo f l (j + 1) := by
  have hj := get_lt h
  unfold mapTo
  rw [take_snoc h, List.map_append, List.set_append_right _ _ (by simp; omega)]
  simp only [List.length_map, List.length_take, Nat.min_eq_left (Nat.le_of_lt hj), Nat.sub_self]
  rw [List.drop_eq_getElem_cons hj]
  have : l[j] = c := (List.getElem?_eq_some_iff.1 h).2
  rw [this]
  simp
theorem any_snoc {f : Ck → Bool} {l : List Ck} {j : Nat} {c : Ck} (h : l[j]? = some c) : (l.take (j + 1)).any f = ((l.take j).any f || f c) := by
  rw [take_snoc h, List.any_append]
  simp
/-! ### Expire, the program's -/
def notL (c : Ck) : Bool := !c.l
def I14 (s : Sq) (q : Bool) (j : Nat) : St := ⟨[(2, .ptr 0 0), (4, .ptr 1 0), (5, .d (.bool q)), (11, .d (.int .i64 s.fl.length)), (12, .d (.int .i64 j))], [(0, .box [.d (.int .i64 0), .d (.str []), .d (.int .i64 0), .raw (.slice none 0 0), .raw (.slice none 0 0)]), (1, .box [.d (.int .i64 s.b), .d (.str s.d), .d (.int .i64 s.n), .own 2 5, .d (.sl (s.cm.map ivD))]), (2, .row 5 ((mapTo lose1 s.fl j).map ckD))]⟩
set_option maxRecDepth 100000 in
set_option maxHeartbeats 1000000 in
theorem r14 (s : Sq) (hl : s.fl.length < 1000000) (q q' : Bool) (j : Nat) (c : Ck) (hn : s.fl[j]? = some c) (hm : (mapTo lose1 s.fl j)[j]? = some c) (hs : (mapTo lose1 s.fl j).set j (lose1 c) = mapTo lose1 s.fl (j+1)) (hq : (q || !c.l) = q') : Runs Try.prog 0 (loopN Try.prog 14 0) (St.as (I14 s q j) 33) (.normal) (St.as (I14 s q' (j+1)) 33) := by
  refine round_wp (p := condP (decide ((↑j : Int) < (↑s.fl.length : Int))) (condP (q) ((D.bool q = D.bool true) ∧ ((D.bool true = D.bool q') ∧ (((0 : Int) ≤ (↑j : Int) ∧ (↑j : Int) < (↑(List.map ckD (mapTo lose1 s.fl j)).length : Int)) ∧ (((↑j : Int).toNat < (List.map ckD (mapTo lose1 s.fl j)).length) ∧ ((5 = 5) ∧ (((List.map ckD (mapTo lose1 s.fl j))[(↑j : Int).toNat]? = some (D.agg [D.int .i64 c.f, D.int .i64 c.t, D.int .i64 c.s, D.int .i64 c.r, D.bool c.l])) ∧ ((AV.ptr 0 0 = AV.ptr 0 0) ∧ ((AV.ptr 1 0 = AV.ptr 1 0) ∧ ((AV.d (.bool q') = AV.d (.bool q')) ∧ ((AV.d (.int .i64 (↑s.fl.length : Int)) = AV.d (.int .i64 (↑s.fl.length : Int))) ∧ ((AV.d (.int .i64 (IntKind.i64.wrap ((↑j : Int) + (1 : Int)))) = AV.d (.int .i64 (↑(j + 1) : Int))) ∧ ((Ob.box [AV.d (.int .i64 (0 : Int)), AV.d (.str []), AV.d (.int .i64 (0 : Int)), AV.raw (Value.slice none 0 0), AV.raw (Value.slice none 0 0)] = Ob.box [AV.d (.int .i64 (0 : Int)), AV.d (.str []), AV.d (.int .i64 (0 : Int)), AV.raw (Value.slice none 0 0), AV.raw (Value.slice none 0 0)]) ∧ ((Ob.box [AV.d (.int .i64 s.b), AV.d (.str s.d), AV.d (.int .i64 s.n), AV.own 2 5, AV.d (.sl (List.map ivD s.cm))] = Ob.box [AV.d (.int .i64 s.b), AV.d (.str s.d), AV.d (.int .i64 s.n), AV.own 2 5, AV.d (.sl (List.map ivD s.cm))]) ∧ ((Ob.row 5 ((List.map ckD (mapTo lose1 s.fl j)).set (↑j : Int).toNat (D.agg (List.take 4 [D.int .i64 c.f, D.int .i64 c.t, D.int .i64 c.s, D.int .i64 c.r, D.bool c.l] ++ [D.bool true] ++ List.drop 5 [D.int .i64 c.f, D.int .i64 c.t, D.int .i64 c.s, D.int .i64 c.r, D.bool c.l]))) = Ob.row 5 (List.map ckD (mapTo lose1 s.fl (j + 1)))) ∧ (True))))))))))))))) ((D.bool q = D.bool false) ∧ (((0 : Int) ≤ (↑j : Int) ∧ (↑j : Int) < (↑(List.map ckD (mapTo lose1 s.fl j)).length : Int)) ∧ (((↑j : Int).toNat < (List.map ckD (mapTo lose1 s.fl j)).length) ∧ ((5 = 5) ∧ (((List.map ckD (mapTo lose1 s.fl j))[(↑j : Int).toNat]? = some (D.agg [D.int .i64 c.f, D.int .i64 c.t, D.int .i64 c.s, D.int .i64 c.r, D.bool c.l])) ∧ (((D.bool !c.l) = D.bool q') ∧ (((0 : Int) ≤ (↑j : Int) ∧ (↑j : Int) < (↑(List.map ckD (mapTo lose1 s.fl j)).length : Int)) ∧ (((↑j : Int).toNat < (List.map ckD (mapTo lose1 s.fl j)).length) ∧ ((5 = 5) ∧ (((List.map ckD (mapTo lose1 s.fl j))[(↑j : Int).toNat]? = some (D.agg [D.int .i64 c.f, D.int .i64 c.t, D.int .i64 c.s, D.int .i64 c.r, D.bool c.l])) ∧ ((AV.ptr 0 0 = AV.ptr 0 0) ∧ ((AV.ptr 1 0 = AV.ptr 1 0) ∧ ((AV.d (.bool q') = AV.d (.bool q')) ∧ ((AV.d (.int .i64 (↑s.fl.length : Int)) = AV.d (.int .i64 (↑s.fl.length : Int))) ∧ ((AV.d (.int .i64 (IntKind.i64.wrap ((↑j : Int) + (1 : Int)))) = AV.d (.int .i64 (↑(j + 1) : Int))) ∧ ((Ob.box [AV.d (.int .i64 (0 : Int)), AV.d (.str []), AV.d (.int .i64 (0 : Int)), AV.raw (Value.slice none 0 0), AV.raw (Value.slice none 0 0)] = Ob.box [AV.d (.int .i64 (0 : Int)), AV.d (.str []), AV.d (.int .i64 (0 : Int)), AV.raw (Value.slice none 0 0), AV.raw (Value.slice none 0 0)]) ∧ ((Ob.box [AV.d (.int .i64 s.b), AV.d (.str s.d), AV.d (.int .i64 s.n), AV.own 2 5, AV.d (.sl (List.map ivD s.cm))] = Ob.box [AV.d (.int .i64 s.b), AV.d (.str s.d), AV.d (.int .i64 s.n), AV.own 2 5, AV.d (.sl (List.map ivD s.cm))]) ∧ ((Ob.row 5 ((List.map ckD (mapTo lose1 s.fl j)).set (↑j : Int).toNat (D.agg (List.take 4 [D.int .i64 c.f, D.int .i64 c.t, D.int .i64 c.s, D.int .i64 c.r, D.bool c.l] ++ [D.bool true] ++ List.drop 5 [D.int .i64 c.f, D.int .i64 c.t, D.int .i64 c.s, D.int .i64 c.r, D.bool c.l]))) = Ob.row 5 (List.map ckD (mapTo lose1 s.fl (j + 1)))) ∧ (True)))))))))))))))))))) (False)) (h := {els := [(21, .el (ckD c)), (29, .el (ckD c))], H := [(6, [(10, .val (.bool q'))])]}) (subs := []) (ws := []) (ρ := []) (by kernel_rfl) ?_
  have hj := get_lt hn
  have hi := inc_i64 (j := j) (by omega)
  have hln := mapTo_len lose1 s.fl j
  have hsD : ((mapTo lose1 s.fl j).map ckD).set j (ckD (lose1 c)) = (mapTo lose1 s.fl (j+1)).map ckD := by rw [← List.map_set, hs]
  try simp only [hi]
  refine condP_t (by rw [decide_eq_true_eq]; omega) ?_
  simp only [Int.toNat_natCast]
  repeat' (with_reducible first | exact True.intro | apply And.intro | (first | apply zA | apply zB | apply zC | apply zD | apply zE | apply zF | apply zG) <;> intro)
  all_goals first | exact el_map hm rfl | exact hsD | exact congrArg (Ob.row 5) hsD | rfl | omega | (simp [hln]; omega) | (refine congrArg D.bool ?_; rw [← hq]; simp_all; done) | (subst hq; simp_all; done) | skip

set_option maxRecDepth 100000 in
set_option maxHeartbeats 1000000 in
theorem q14 (s : Sq) (q : Bool) : Runs Try.prog 0 (loopN Try.prog 14 0) (St.as (I14 s q s.fl.length) 33) (.exit 0) (St.as (I14 s q s.fl.length) 33) := by
  refine round_wp (p := condP (decide ((↑s.fl.length : Int) < (↑s.fl.length : Int))) (condP (q) ((D.bool q = D.bool true) ∧ (False)) (False)) ((AV.ptr 0 0 = AV.ptr 0 0) ∧ ((AV.ptr 1 0 = AV.ptr 1 0) ∧ ((AV.d (.bool q) = AV.d (.bool q)) ∧ ((AV.d (.int .i64 (↑s.fl.length : Int)) = AV.d (.int .i64 (↑s.fl.length : Int))) ∧ ((AV.d (.int .i64 (↑s.fl.length : Int)) = AV.d (.int .i64 (↑s.fl.length : Int))) ∧ ((Ob.box [AV.d (.int .i64 (0 : Int)), AV.d (.str []), AV.d (.int .i64 (0 : Int)), AV.raw (Value.slice none 0 0), AV.raw (Value.slice none 0 0)] = Ob.box [AV.d (.int .i64 (0 : Int)), AV.d (.str []), AV.d (.int .i64 (0 : Int)), AV.raw (Value.slice none 0 0), AV.raw (Value.slice none 0 0)]) ∧ ((Ob.box [AV.d (.int .i64 s.b), AV.d (.str s.d), AV.d (.int .i64 s.n), AV.own 2 5, AV.d (.sl (List.map ivD s.cm))] = Ob.box [AV.d (.int .i64 s.b), AV.d (.str s.d), AV.d (.int .i64 s.n), AV.own 2 5, AV.d (.sl (List.map ivD s.cm))]) ∧ ((Ob.row 5 (List.map ckD (mapTo lose1 s.fl s.fl.length)) = Ob.row 5 (List.map ckD (mapTo lose1 s.fl s.fl.length))) ∧ (True)))))))))) (h := {}) (subs := []) (ws := []) (ρ := []) (by kernel_rfl) ?_
  repeat' (with_reducible first | exact True.intro | apply And.intro | (first | apply zA | apply zB | apply zC | apply zD | apply zE | apply zF | apply zG) <;> intro)
  all_goals first | rfl | omega

set_option maxRecDepth 100000 in
set_option maxHeartbeats 1000000 in
theorem exp14 (s : Sq) (q : Bool) (k1 : FnOK Try.prog 33 [.d (sqD s)] [] (oAV s) [.row 5 (s.fl.map ckD)]) (hL : Loops Try.prog 0 (loopN Try.prog 14 0) ((I14 s false 0).as 33) (.exit 0) ((I14 s q s.fl.length).as 33)) : FnOK Try.prog 14 ([.d (sqD s)]) ([]) (.tup [.d (sqD { s with fl := s.fl.map lose1 }), .d (.bool q)]) ([]) := by
  refine fnOK_wp (p := (FnOK Try.prog 33 [AV.d (.agg [D.int .i64 s.b, D.str s.d, D.int .i64 s.n, D.sl (List.map ckD s.fl), D.sl (List.map ivD s.cm)])] [] (AV.agg [AV.d (.int .i64 s.b), AV.d (.str s.d), AV.d (.int .i64 s.n), AV.own 0 5, AV.d (.sl (List.map ivD s.cm))]) [Ob.row 5 (List.map ckD s.fl)]) ∧ ((AV.ptr 1016 0 = AV.ptr 1016 0) ∧ ((AV.ptr 1032 0 = AV.ptr 1032 0) ∧ ((AV.d (.bool false) = AV.d (.bool false)) ∧ ((AV.d (.int .i64 (↑(List.map ckD s.fl).length : Int)) = AV.d (.int .i64 (↑s.fl.length : Int))) ∧ ((AV.d (.int .i64 (0 : Int)) = AV.d (.int .i64 (0 : Int))) ∧ ((Ob.box [AV.d (.int .i64 (0 : Int)), AV.d (.str []), AV.d (.int .i64 (0 : Int)), AV.raw (Value.slice none 0 0), AV.raw (Value.slice none 0 0)] = Ob.box [AV.d (.int .i64 (0 : Int)), AV.d (.str []), AV.d (.int .i64 (0 : Int)), AV.raw (Value.slice none 0 0), AV.raw (Value.slice none 0 0)]) ∧ ((Ob.box [AV.d (.int .i64 s.b), AV.d (.str s.d), AV.d (.int .i64 s.n), AV.own 1064 5, AV.d (.sl (List.map ivD s.cm))] = Ob.box [AV.d (.int .i64 s.b), AV.d (.str s.d), AV.d (.int .i64 s.n), AV.own 1064 5, AV.d (.sl (List.map ivD s.cm))]) ∧ ((Ob.row 5 (List.map ckD s.fl) = Ob.row 5 (List.map ckD (mapTo lose1 s.fl 0))) ∧ ((LoopsS Try.prog 0 (loopN Try.prog 14 0) (I14 s false 0) (Exit.exit 0) (I14 s q s.fl.length) 33) ∧ ((AV.tup [AV.d (.agg [D.int .i64 s.b, D.str s.d, D.int .i64 s.n, D.sl (List.map ckD (mapTo lose1 s.fl s.fl.length)), D.sl (List.map ivD s.cm)]), AV.d (.bool q)] = AV.tup [AV.d (.agg [D.int .i64 (Sq.mk s.b s.d s.n (List.map lose1 s.fl) s.cm).b, D.str (Sq.mk s.b s.d s.n (List.map lose1 s.fl) s.cm).d, D.int .i64 (Sq.mk s.b s.d s.n (List.map lose1 s.fl) s.cm).n, D.sl (List.map ckD (Sq.mk s.b s.d s.n (List.map lose1 s.fl) s.cm).fl), D.sl (List.map ivD (Sq.mk s.b s.d s.n (List.map lose1 s.fl) s.cm).cm)]), AV.d (.bool q)]) ∧ (True)))))))))))) (h := {H := [(1, [(1, .call [] (oAV s) [.row 5 (s.fl.map ckD)])])]}) (subs := [⟨[], [], I14 s false 0, .exit 0, I14 s q s.fl.length⟩]) (ws := []) (ρ := []) (by kernel_rfl) ?_
  have h0 := mapTo_zero lose1 s.fl
  have h1 := mapTo_end lose1 s.fl
  try simp only [List.length_map]
  repeat' (with_reducible first | exact True.intro | apply And.intro | (first | apply zA | apply zB | apply zC | apply zD | apply zE | apply zF | apply zG) <;> intro)
  all_goals first | exact k1 | exact hL | rfl | (rw [h0]; done) | (rw [h1]; done) | (rw [h0]; rfl) | (rw [h1]; rfl) | (rw [List.length_map]; done) | skip

theorem expire14 (s : Sq) (h : SqOk s) : FnOK Try.prog 14 [.d (sqD s)] [] (.tup [.d (sqD (rExpire s).1), .d (.bool (rExpire s).2)]) [] := by
  have hf := h.fl
  refine exp14 s _ (ownH s h) ?_
  have hL := loops_n (P := Try.prog) (k := 0) (c := loopN Try.prog 14 0) (e := .exit 0) (I := fun j => (I14 s ((s.fl.take j).any notL) j).as 33) (by simp) s.fl.length 0 (by omega) (fun j _ hj => by
    have hn := get_of hj
    show Runs _ _ _ _ _ ((I14 s ((s.fl.take (j + 1)).any notL) (j + 1)).as _)
    exact r14 s (by omega) _ _ j _ hn (mapTo_get lose1 hn) (mapTo_set lose1 hn) (any_snoc hn).symm) (by simp only [List.take_length]; exact q14 s _)
  exact hL
/-! ### The oldest tick -/
def oldS (p : Int × Bool) (c : Ck) : Int × Bool := if c.l = false ∧ (p.2 = false ∨ c.s < p.1) then (c.s, true) else p
def rOldest (s : Sq) : Int × Bool := s.fl.foldl oldS (0, false)
def I16 (s : Sq) (p : Int × Bool) (j : Nat) : St := ⟨[(4, .d (.int .i64 p.1)), (5, .d (.bool p.2)), (9, .d (.sl (s.fl.map ckD))), (10, .d (.int .i64 s.fl.length)), (11, .d (.int .i64 j))], []⟩
set_option maxRecDepth 100000 in
set_option maxHeartbeats 1000000 in
theorem r16a (s : Sq) (hl : s.fl.length < 1000000) (u : Int) (q : Bool) (j : Nat) (c : Ck) (hn : s.fl[j]? = some c) (h1 : c.l = true) (h2 : True) : Runs Try.prog 0 (loopN Try.prog 16 0) (St.as (I16 s (u, q) j) 33) (.normal) (St.as (I16 s (u, q) (j+1)) 33) := by
  refine round_wp (p := condP (decide ((↑j : Int) < (↑s.fl.length : Int))) (((0 : Int) ≤ (↑j : Int)) ∧ (((List.map ckD s.fl)[(↑j : Int).toNat]? = some (D.agg [D.int .i64 c.f, D.int .i64 c.t, D.int .i64 c.s, D.int .i64 c.r, D.bool c.l])) ∧ (((D.bool !c.l) = D.bool false) ∧ ((AV.d (.int .i64 (u, q).fst) = AV.d (.int .i64 (u, q).fst)) ∧ ((AV.d (.bool (u, q).snd) = AV.d (.bool (u, q).snd)) ∧ ((AV.d (.sl (List.map ckD s.fl)) = AV.d (.sl (List.map ckD s.fl))) ∧ ((AV.d (.int .i64 (↑s.fl.length : Int)) = AV.d (.int .i64 (↑s.fl.length : Int))) ∧ ((AV.d (.int .i64 (IntKind.i64.wrap ((↑j : Int) + (1 : Int)))) = AV.d (.int .i64 (↑(j + 1) : Int))) ∧ (True))))))))) (False)) (h := {els := [(9, .el (ckD c))], H := [(5, [(3, .val (.bool false))])]}) (subs := []) (ws := []) (ρ := []) (by kernel_rfl) ?_
  have hj := get_lt hn
  have hi := inc_i64 (j := j) (by omega)
  try simp only [hi, List.length_map]
  refine condP_t (by rw [decide_eq_true_eq]; omega) ?_
  repeat' (with_reducible first | exact True.intro | apply And.intro | (first | apply zA | apply zB | apply zC | apply zD | apply zE | apply zF | apply zG) <;> intro)
  all_goals first | exact el_map hn rfl | rfl | omega | (refine congrArg D.bool ?_; simp [h1]; done) | (refine congrArg D.bool ?_; simp [h2]; done) | exact dyes (by omega) | exact dno (by omega) | skip

set_option maxRecDepth 100000 in
set_option maxHeartbeats 1000000 in
theorem r16b (s : Sq) (hl : s.fl.length < 1000000) (u : Int) (q : Bool) (j : Nat) (c : Ck) (hn : s.fl[j]? = some c) (h1 : c.l = false) (h2 : q = false) : Runs Try.prog 0 (loopN Try.prog 16 0) (St.as (I16 s (u, q) j) 33) (.normal) (St.as (I16 s (c.s, true) (j+1)) 33) := by
  refine round_wp (p := condP (decide ((↑j : Int) < (↑s.fl.length : Int))) (((0 : Int) ≤ (↑j : Int)) ∧ (((List.map ckD s.fl)[(↑j : Int).toNat]? = some (D.agg [D.int .i64 c.f, D.int .i64 c.t, D.int .i64 c.s, D.int .i64 c.r, D.bool c.l])) ∧ (((D.bool !c.l) = D.bool true) ∧ (((D.bool !(u, q).snd) = D.bool true) ∧ ((AV.d (.int .i64 c.s) = AV.d (.int .i64 (c.s, true).fst)) ∧ ((AV.d (.bool true) = AV.d (.bool true)) ∧ ((AV.d (.sl (List.map ckD s.fl)) = AV.d (.sl (List.map ckD s.fl))) ∧ ((AV.d (.int .i64 (↑s.fl.length : Int)) = AV.d (.int .i64 (↑s.fl.length : Int))) ∧ ((AV.d (.int .i64 (IntKind.i64.wrap ((↑j : Int) + (1 : Int)))) = AV.d (.int .i64 (↑(j + 1) : Int))) ∧ (True)))))))))) (False)) (h := {els := [(9, .el (ckD c))], H := [(5, [(3, .val (.bool true)), (6, .val (.bool true))])]}) (subs := []) (ws := []) (ρ := []) (by kernel_rfl) ?_
  have hj := get_lt hn
  have hi := inc_i64 (j := j) (by omega)
  try simp only [hi, List.length_map]
  refine condP_t (by rw [decide_eq_true_eq]; omega) ?_
  repeat' (with_reducible first | exact True.intro | apply And.intro | (first | apply zA | apply zB | apply zC | apply zD | apply zE | apply zF | apply zG) <;> intro)
  all_goals first | exact el_map hn rfl | rfl | omega | (refine congrArg D.bool ?_; simp [h1]; done) | (refine congrArg D.bool ?_; simp [h2]; done) | exact dyes (by omega) | exact dno (by omega) | skip

set_option maxRecDepth 100000 in
set_option maxHeartbeats 1000000 in
theorem r16c (s : Sq) (hl : s.fl.length < 1000000) (u : Int) (q : Bool) (j : Nat) (c : Ck) (hn : s.fl[j]? = some c) (h1 : c.l = false) (h2 : q = true) (h3 : c.s < u) : Runs Try.prog 0 (loopN Try.prog 16 0) (St.as (I16 s (u, q) j) 33) (.normal) (St.as (I16 s (c.s, true) (j+1)) 33) := by
  refine round_wp (p := condP (decide ((↑j : Int) < (↑s.fl.length : Int))) (((0 : Int) ≤ (↑j : Int)) ∧ (((List.map ckD s.fl)[(↑j : Int).toNat]? = some (D.agg [D.int .i64 c.f, D.int .i64 c.t, D.int .i64 c.s, D.int .i64 c.r, D.bool c.l])) ∧ (((D.bool !c.l) = D.bool true) ∧ (((D.bool !(u, q).snd) = D.bool false) ∧ ((D.bool (decide (c.s < (u, q).fst)) = D.bool true) ∧ ((AV.d (.int .i64 c.s) = AV.d (.int .i64 (c.s, true).fst)) ∧ ((AV.d (.bool true) = AV.d (.bool true)) ∧ ((AV.d (.sl (List.map ckD s.fl)) = AV.d (.sl (List.map ckD s.fl))) ∧ ((AV.d (.int .i64 (↑s.fl.length : Int)) = AV.d (.int .i64 (↑s.fl.length : Int))) ∧ ((AV.d (.int .i64 (IntKind.i64.wrap ((↑j : Int) + (1 : Int)))) = AV.d (.int .i64 (↑(j + 1) : Int))) ∧ (True))))))))))) (False)) (h := {els := [(9, .el (ckD c))], H := [(5, [(3, .val (.bool true)), (6, .val (.bool false)), (10, .val (.bool true))])]}) (subs := []) (ws := []) (ρ := []) (by kernel_rfl) ?_
  have hj := get_lt hn
  have hi := inc_i64 (j := j) (by omega)
  try simp only [hi, List.length_map]
  refine condP_t (by rw [decide_eq_true_eq]; omega) ?_
  repeat' (with_reducible first | exact True.intro | apply And.intro | (first | apply zA | apply zB | apply zC | apply zD | apply zE | apply zF | apply zG) <;> intro)
  all_goals first | exact el_map hn rfl | rfl | omega | (refine congrArg D.bool ?_; simp [h1]; done) | (refine congrArg D.bool ?_; simp [h2]; done) | exact dyes (by omega) | exact dno (by omega) | skip

set_option maxRecDepth 100000 in
set_option maxHeartbeats 1000000 in
theorem r16d (s : Sq) (hl : s.fl.length < 1000000) (u : Int) (q : Bool) (j : Nat) (c : Ck) (hn : s.fl[j]? = some c) (h1 : c.l = false) (h2 : q = true) (h3 : ¬c.s < u) : Runs Try.prog 0 (loopN Try.prog 16 0) (St.as (I16 s (u, q) j) 33) (.normal) (St.as (I16 s (u, q) (j+1)) 33) := by
  refine round_wp (p := condP (decide ((↑j : Int) < (↑s.fl.length : Int))) (((0 : Int) ≤ (↑j : Int)) ∧ (((List.map ckD s.fl)[(↑j : Int).toNat]? = some (D.agg [D.int .i64 c.f, D.int .i64 c.t, D.int .i64 c.s, D.int .i64 c.r, D.bool c.l])) ∧ (((D.bool !c.l) = D.bool true) ∧ (((D.bool !(u, q).snd) = D.bool false) ∧ ((D.bool (decide (c.s < (u, q).fst)) = D.bool false) ∧ ((AV.d (.int .i64 (u, q).fst) = AV.d (.int .i64 (u, q).fst)) ∧ ((AV.d (.bool (u, q).snd) = AV.d (.bool (u, q).snd)) ∧ ((AV.d (.sl (List.map ckD s.fl)) = AV.d (.sl (List.map ckD s.fl))) ∧ ((AV.d (.int .i64 (↑s.fl.length : Int)) = AV.d (.int .i64 (↑s.fl.length : Int))) ∧ ((AV.d (.int .i64 (IntKind.i64.wrap ((↑j : Int) + (1 : Int)))) = AV.d (.int .i64 (↑(j + 1) : Int))) ∧ (True))))))))))) (False)) (h := {els := [(9, .el (ckD c))], H := [(5, [(3, .val (.bool true)), (6, .val (.bool false)), (10, .val (.bool false))])]}) (subs := []) (ws := []) (ρ := []) (by kernel_rfl) ?_
  have hj := get_lt hn
  have hi := inc_i64 (j := j) (by omega)
  try simp only [hi, List.length_map]
  refine condP_t (by rw [decide_eq_true_eq]; omega) ?_
  repeat' (with_reducible first | exact True.intro | apply And.intro | (first | apply zA | apply zB | apply zC | apply zD | apply zE | apply zF | apply zG) <;> intro)
  all_goals first | exact el_map hn rfl | rfl | omega | (refine congrArg D.bool ?_; simp [h1]; done) | (refine congrArg D.bool ?_; simp [h2]; done) | exact dyes (by omega) | exact dno (by omega) | skip

set_option maxRecDepth 100000 in
set_option maxHeartbeats 1000000 in
theorem q16 (s : Sq) (p : Int × Bool) : Runs Try.prog 0 (loopN Try.prog 16 0) (St.as (I16 s p s.fl.length) 33) (.exit 0) (St.as (I16 s p s.fl.length) 33) := by
  refine round_wp (p := condP (decide ((↑s.fl.length : Int) < (↑s.fl.length : Int))) (False) ((AV.d (.int .i64 p.fst) = AV.d (.int .i64 p.fst)) ∧ ((AV.d (.bool p.snd) = AV.d (.bool p.snd)) ∧ ((AV.d (.sl (List.map ckD s.fl)) = AV.d (.sl (List.map ckD s.fl))) ∧ ((AV.d (.int .i64 (↑s.fl.length : Int)) = AV.d (.int .i64 (↑s.fl.length : Int))) ∧ ((AV.d (.int .i64 (↑s.fl.length : Int)) = AV.d (.int .i64 (↑s.fl.length : Int))) ∧ (True))))))) (h := {}) (subs := []) (ws := []) (ρ := []) (by kernel_rfl) ?_
  repeat' (with_reducible first | exact True.intro | apply And.intro | (first | apply zA | apply zB | apply zC | apply zD | apply zE | apply zF | apply zG) <;> intro)
  all_goals first | rfl | omega

set_option maxRecDepth 100000 in
set_option maxHeartbeats 1000000 in
theorem old16 (s : Sq) (p : Int × Bool) (hL : Loops Try.prog 0 (loopN Try.prog 16 0) ((I16 s (0, false) 0).as 33) (.exit 0) ((I16 s p s.fl.length).as 33)) : FnOK Try.prog 16 ([.d (sqD s)]) ([]) (.tup [.d (.int .i64 p.1), .d (.bool p.2)]) ([]) := by
  refine fnOK_wp (p := (AV.d (.int .i64 (0 : Int)) = AV.d (.int .i64 (0 : Int))) ∧ ((AV.d (.bool false) = AV.d (.bool false)) ∧ ((AV.d (.sl (List.map ckD s.fl)) = AV.d (.sl (List.map ckD s.fl))) ∧ ((AV.d (.int .i64 (↑(List.map ckD s.fl).length : Int)) = AV.d (.int .i64 (↑s.fl.length : Int))) ∧ ((AV.d (.int .i64 (0 : Int)) = AV.d (.int .i64 (0 : Int))) ∧ ((LoopsS Try.prog 0 (loopN Try.prog 16 0) (I16 s ((0 : Int), false) 0) (Exit.exit 0) (I16 s p s.fl.length) 33) ∧ ((AV.tup [AV.d (.int .i64 p.fst), AV.d (.bool p.snd)] = AV.tup [AV.d (.int .i64 p.fst), AV.d (.bool p.snd)]) ∧ (True)))))))) (h := {}) (subs := [⟨[], [], I16 s (0, false) 0, .exit 0, I16 s p s.fl.length⟩]) (ws := []) (ρ := []) (by kernel_rfl) ?_
  simp only [List.length_map]
  repeat' (with_reducible first | exact True.intro | apply And.intro | (first | apply zA | apply zB | apply zC | apply zD | apply zE | apply zF | apply zG) <;> intro)
  all_goals first | exact hL | rfl | skip

theorem oldS_cases (u : Int) (q : Bool) (c : Ck) : (c.l = true ∧ oldS (u, q) c = (u, q)) ∨ (c.l = false ∧ q = false ∧ oldS (u, q) c = (c.s, true)) ∨ (c.l = false ∧ q = true ∧ c.s < u ∧ oldS (u, q) c = (c.s, true)) ∨ (c.l = false ∧ q = true ∧ ¬c.s < u ∧ oldS (u, q) c = (u, q)) := by
  unfold oldS
  cases h1 : c.l
  · cases q
    · exact .inr (.inl ⟨rfl, rfl, by simp⟩)
    · by_cases h : c.s < u
      · exact .inr (.inr (.inl ⟨rfl, rfl, h, by simp [h]⟩))
      · exact .inr (.inr (.inr ⟨rfl, rfl, h, by simp [h]⟩))
  · exact .inl ⟨rfl, by simp⟩
theorem step16 (s : Sq) (hl : s.fl.length < 1000000) (p : Int × Bool) (j : Nat) (c : Ck) (hn : s.fl[j]? = some c) : Runs Try.prog 0 (loopN Try.prog 16 0) ((I16 s p j).as 33) .normal ((I16 s (oldS p c) (j+1)).as 33) := by
  obtain ⟨u, q⟩ := p
  rcases oldS_cases u q c with ⟨h1, e⟩ | ⟨h1, h2, e⟩ | ⟨h1, h2, h3, e⟩ | ⟨h1, h2, h3, e⟩ <;> rw [e]
  · exact r16a s hl u q j c hn h1 trivial
  · exact r16b s hl u q j c hn h1 h2
  · exact r16c s hl u q j c hn h1 h2 h3
  · exact r16d s hl u q j c hn h1 h2 h3
theorem oldest16 (s : Sq) (hl : s.fl.length < 1000000) : FnOK Try.prog 16 [.d (sqD s)] [] (.tup [.d (.int .i64 (rOldest s).1), .d (.bool (rOldest s).2)]) [] := by
  have hL := loops_n (P := Try.prog) (k := 0) (c := loopN Try.prog 16 0) (e := .exit 0) (I := fun j => (I16 s ((s.fl.take j).foldl oldS (0, false)) j).as 33) (by simp) s.fl.length 0 (by omega) (fun j _ hj => by
    have hn := get_of hj
    show Runs _ _ _ _ _ ((I16 s ((s.fl.take (j + 1)).foldl oldS (0, false)) (j + 1)).as _)
    rw [take_snoc hn, List.foldl_append]
    exact step16 s hl _ j _ hn) (by simp only [List.take_length]; exact q16 s _)
  exact old16 s _ hL
/-! ### Whether two are one -/
theorem sq_dec (a b : Sq) : decide (a = b) = ((a.b == b.b) && ((a.d == b.d) && ((a.n == b.n) && (decide (a.fl = b.fl) && decide (a.cm = b.cm))))) := by
  obtain ⟨a1, a2, a3, a4, a5⟩ := a
  obtain ⟨b1, b2, b3, b4, b5⟩ := b
  rw [Bool.eq_iff_iff]
  simp only [decide_eq_true_eq, Sq.mk.injEq, Bool.and_eq_true, beq_iff_eq]
set_option maxRecDepth 100000 in
set_option maxHeartbeats 1000000 in
theorem same29w (a b : Sq) (k1 : FnOK Try.prog 63 [.d (.sl (a.fl.map ckD)), .d (.sl (b.fl.map ckD))] [] (.d (.bool (decide (a.fl = b.fl)))) []) (k2 : FnOK Try.prog 64 [.d (.sl (a.cm.map ivD)), .d (.sl (b.cm.map ivD))] [] (.d (.bool (decide (a.cm = b.cm)))) []) : FnOK Try.prog 29 ([.d (sqD a), .d (sqD b)]) ([]) (.d (.bool ((a.b == b.b) && ((a.d == b.d) && ((a.n == b.n) && (decide (a.fl = b.fl) && decide (a.cm = b.cm))))))) ([]) := by
  refine fnOK_wp (p := condP (a.b == b.b) (condP (a.d == b.d) (condP (a.n == b.n) (condP (decide (a.fl = b.fl)) ((D.bool (a.b == b.b) = D.bool true) ∧ ((D.bool (a.d == b.d) = D.bool true) ∧ ((D.bool (a.n == b.n) = D.bool true) ∧ ((FnOK Try.prog 63 [AV.d (.sl (List.map ckD a.fl)), AV.d (.sl (List.map ckD b.fl))] [] (AV.d (.bool (decide (a.fl = b.fl)))) []) ∧ ((D.bool (decide (a.fl = b.fl)) = D.bool true) ∧ ((FnOK Try.prog 64 [AV.d (.sl (List.map ivD a.cm)), AV.d (.sl (List.map ivD b.cm))] [] (AV.d (.bool (decide (a.cm = b.cm)))) []) ∧ ((AV.d (.bool (decide (a.cm = b.cm))) = AV.d (.bool (a.b == b.b && (a.d == b.d && (a.n == b.n && (decide (a.fl = b.fl) && decide (a.cm = b.cm))))))) ∧ (True)))))))) ((D.bool (a.b == b.b) = D.bool true) ∧ ((D.bool (a.d == b.d) = D.bool true) ∧ ((D.bool (a.n == b.n) = D.bool true) ∧ ((FnOK Try.prog 63 [AV.d (.sl (List.map ckD a.fl)), AV.d (.sl (List.map ckD b.fl))] [] (AV.d (.bool (decide (a.fl = b.fl)))) []) ∧ ((D.bool (decide (a.fl = b.fl)) = D.bool false) ∧ ((AV.d (.bool false) = AV.d (.bool (a.b == b.b && (a.d == b.d && (a.n == b.n && (decide (a.fl = b.fl) && decide (a.cm = b.cm))))))) ∧ (True)))))))) ((D.bool (a.b == b.b) = D.bool true) ∧ ((D.bool (a.d == b.d) = D.bool true) ∧ ((D.bool (a.n == b.n) = D.bool false) ∧ ((D.bool false = D.bool false) ∧ ((AV.d (.bool false) = AV.d (.bool (a.b == b.b && (a.d == b.d && (a.n == b.n && (decide (a.fl = b.fl) && decide (a.cm = b.cm))))))) ∧ (True))))))) ((D.bool (a.b == b.b) = D.bool true) ∧ ((D.bool (a.d == b.d) = D.bool false) ∧ ((D.bool false = D.bool false) ∧ ((D.bool false = D.bool false) ∧ ((AV.d (.bool false) = AV.d (.bool (a.b == b.b && (a.d == b.d && (a.n == b.n && (decide (a.fl = b.fl) && decide (a.cm = b.cm))))))) ∧ (True))))))) ((D.bool (a.b == b.b) = D.bool false) ∧ ((D.bool false = D.bool false) ∧ ((D.bool false = D.bool false) ∧ ((D.bool false = D.bool false) ∧ ((AV.d (.bool false) = AV.d (.bool (a.b == b.b && (a.d == b.d && (a.n == b.n && (decide (a.fl = b.fl) && decide (a.cm = b.cm))))))) ∧ (True))))))) (h := {H := [(1, [(24, .call [] (.d (.bool (decide (a.fl = b.fl)))) []), (31, .call [] (.d (.bool (decide (a.cm = b.cm)))) [])])]}) (subs := []) (ws := []) (ρ := []) (by kernel_rfl) ?_
  repeat' (with_reducible first | exact True.intro | apply And.intro | (first | apply zA | apply zB | apply zC | apply zD | apply zE | apply zF | apply zG) <;> intro)
  all_goals first | exact k1 | exact k2 | rfl | (simp_all; done) | skip

theorem same29 (a b : Sq) (ha : SqOk a) : FnOK Try.prog 29 [.d (sqD a), .d (sqD b)] [] (.d (.bool (decide (a = b)))) [] := by
  rw [sq_dec]
  exact same29w a b (ckD_equal a.fl b.fl (by have := ha.fl; omega)) (same23 a.cm b.cm _ (ivD_equal a.cm b.cm (by have := ha.cm; omega)))
end Go.Proofs.Ytfllhedkgeljaaa


set_option linter.unusedSimpArgs false
set_option linter.unusedVariables false
namespace Go.Proofs.Ytfllhedkgeljaaa
open Sx Go.RowKit C06
def sqZ : Ob := .box [.d (.int .i64 0), .d (.str []), .d (.int .i64 0), .raw (.slice none 0 0), .raw (.slice none 0 0)]
theorem timB_iff {c : Ck} : timB c = true ↔ (0 ≤ c.s ∧ c.s ≤ 1099511627776) ∧ c.r > 0 ∧ c.r ≤ 1073741824 := by
  unfold timB tickB
  simp only [Bool.and_eq_true, decide_eq_true_eq]
end Go.Proofs.Ytfllhedkgeljaaa


/-
laws 11: whether an acknowledgement may be; what is left of a chunk; what is lost behind what came: the program's.
-/
set_option linter.unusedSimpArgs false
set_option linter.unusedVariables false
namespace Go.Proofs.Ytfllhedkgeljaaa
open Sx Go.RowKit C06


def ivD_IB (g : Nat) (u : Int) (s : Sq) (l : List Iv) (j : Nat) : St := ⟨[(0, .d (.sl (l.map ivD))), (1, .fn g [.ptr 0 0, .ptr 1 0]), (7, .d (.int .i64 l.length)), (8, .d (.int .i64 j))], [(0, .box [.d (.int .i64 u)]), (1, sqB s)]⟩
def ivD_IOB (g : Nat) (u : Int) (s : Sq) (m : Int) : St := ⟨[(4, .d (.int .i64 m))], [(0, .box [.d (.int .i64 u)]), (1, sqB s)]⟩
set_option maxRecDepth 100000 in
set_option maxHeartbeats 1000000 in
theorem ivD_irB (g : Nat) (u : Int) (s : Sq) (l : List Iv) (hl : l.length < 1073741824) (j : Nat) (x : Iv) (hn : l[j]? = some x) (hx : FnOK Try.prog g [.d (ivD x), .ptr 0 0, .ptr 1 0] [.box [.d (.int .i64 u)], sqB s] (.d (.bool false)) [.box [.d (.int .i64 u)], sqB s]) : Runs Try.prog 2 (loopN Try.prog 85 0) (St.as (ivD_IB g u s l j) 19) (.normal) (St.as (ivD_IB g u s l (j+1)) 19) := by
  refine round_wp (p := condP (decide ((↑j : Int) < (↑l.length : Int))) (((0 : Int) ≤ (↑j : Int)) ∧ (((List.map ivD l)[(↑j : Int).toNat]? = some (D.agg [D.int .i64 x.fst, D.int .i64 x.snd])) ∧ ((FnOK Try.prog g [AV.d (.agg [D.int .i64 x.fst, D.int .i64 x.snd]), AV.ptr 0 0, AV.ptr 1 0] [Ob.box [AV.d (.int .i64 u)], Ob.box [AV.d (.int .i64 s.b), AV.d (.str s.d), AV.d (.int .i64 s.n), AV.d (.sl (List.map ckD s.fl)), AV.d (.sl (List.map ivD s.cm))]] (AV.d (.bool false)) [Ob.box [AV.d (.int .i64 u)], Ob.box [AV.d (.int .i64 s.b), AV.d (.str s.d), AV.d (.int .i64 s.n), AV.d (.sl (List.map ckD s.fl)), AV.d (.sl (List.map ivD s.cm))]]) ∧ ((AV.d (.sl (List.map ivD l)) = AV.d (.sl (List.map ivD l))) ∧ ((AV.fn g [AV.ptr 0 0, AV.ptr 1 0] = AV.fn g [AV.ptr 0 0, AV.ptr 1 0]) ∧ ((AV.d (.int .i64 (↑l.length : Int)) = AV.d (.int .i64 (↑l.length : Int))) ∧ ((AV.d (.int .i64 (IntKind.i64.wrap ((↑j : Int) + (1 : Int)))) = AV.d (.int .i64 (↑(j + 1) : Int))) ∧ ((Ob.box [AV.d (.int .i64 u)] = Ob.box [AV.d (.int .i64 u)]) ∧ ((Ob.box [AV.d (.int .i64 s.b), AV.d (.str s.d), AV.d (.int .i64 s.n), AV.d (.sl (List.map ckD s.fl)), AV.d (.sl (List.map ivD s.cm))] = Ob.box [AV.d (.int .i64 s.b), AV.d (.str s.d), AV.d (.int .i64 s.n), AV.d (.sl (List.map ckD s.fl)), AV.d (.sl (List.map ivD s.cm))]) ∧ (True)))))))))) (False)) (h := {els := [(12, .el (ivD x)), (11, .call [0, 1] (.d (.bool false)) [.box [.d (.int .i64 u)], sqB s])]}) (subs := []) (ws := []) (ρ := []) (by kernel_rfl) ?_
  have hj := get_lt hn
  have hi := inc_i64 (j := j) (by omega)
  try simp only [hi]
  refine condP_t (by rw [decide_eq_true_eq]; omega) ?_
  repeat' (with_reducible first | exact True.intro | apply And.intro | (first | apply zA | apply zB | apply zC | apply zD | apply zE | apply zF | apply zG) <;> intro)
  all_goals first | exact hx | exact el_map hn rfl | rfl | omega | skip

set_option maxRecDepth 100000 in
set_option maxHeartbeats 1000000 in
theorem ivD_ieB (g : Nat) (u : Int) (s : Sq) (l : List Iv) (hl : l.length < 1073741824) (j : Nat) (x : Iv) (hn : l[j]? = some x) (hx : FnOK Try.prog g [.d (ivD x), .ptr 0 0, .ptr 1 0] [.box [.d (.int .i64 u)], sqB s] (.d (.bool true)) [.box [.d (.int .i64 u)], sqB s]) : Runs Try.prog 2 (loopN Try.prog 85 0) (St.as (ivD_IB g u s l j) 19) (.ret) (St.as (ivD_IOB g u s j) 19) := by
  refine round_wp (p := condP (decide ((↑j : Int) < (↑l.length : Int))) (((0 : Int) ≤ (↑j : Int)) ∧ (((List.map ivD l)[(↑j : Int).toNat]? = some (D.agg [D.int .i64 x.fst, D.int .i64 x.snd])) ∧ ((FnOK Try.prog g [AV.d (.agg [D.int .i64 x.fst, D.int .i64 x.snd]), AV.ptr 0 0, AV.ptr 1 0] [Ob.box [AV.d (.int .i64 u)], Ob.box [AV.d (.int .i64 s.b), AV.d (.str s.d), AV.d (.int .i64 s.n), AV.d (.sl (List.map ckD s.fl)), AV.d (.sl (List.map ivD s.cm))]] (AV.d (.bool true)) [Ob.box [AV.d (.int .i64 u)], Ob.box [AV.d (.int .i64 s.b), AV.d (.str s.d), AV.d (.int .i64 s.n), AV.d (.sl (List.map ckD s.fl)), AV.d (.sl (List.map ivD s.cm))]]) ∧ ((AV.d (.int .i64 (↑j : Int)) = AV.d (.int .i64 (↑j : Int))) ∧ ((Ob.box [AV.d (.int .i64 u)] = Ob.box [AV.d (.int .i64 u)]) ∧ ((Ob.box [AV.d (.int .i64 s.b), AV.d (.str s.d), AV.d (.int .i64 s.n), AV.d (.sl (List.map ckD s.fl)), AV.d (.sl (List.map ivD s.cm))] = Ob.box [AV.d (.int .i64 s.b), AV.d (.str s.d), AV.d (.int .i64 s.n), AV.d (.sl (List.map ckD s.fl)), AV.d (.sl (List.map ivD s.cm))]) ∧ (True))))))) (False)) (h := {els := [(12, .el (ivD x)), (11, .call [0, 1] (.d (.bool true)) [.box [.d (.int .i64 u)], sqB s])]}) (subs := []) (ws := []) (ρ := []) (by kernel_rfl) ?_
  have hj := get_lt hn
  have hi := inc_i64 (j := j) (by omega)
  try simp only [hi]
  refine condP_t (by rw [decide_eq_true_eq]; omega) ?_
  repeat' (with_reducible first | exact True.intro | apply And.intro | (first | apply zA | apply zB | apply zC | apply zD | apply zE | apply zF | apply zG) <;> intro)
  all_goals first | exact hx | exact el_map hn rfl | rfl | omega | skip

set_option maxRecDepth 100000 in
set_option maxHeartbeats 1000000 in
theorem ivD_iqB (g : Nat) (u : Int) (s : Sq) (l : List Iv) : Runs Try.prog 2 (loopN Try.prog 85 0) (St.as (ivD_IB g u s l l.length) 19) (.exit 0) (St.as (ivD_IB g u s l l.length) 19) := by
  refine round_wp (p := condP (decide ((↑l.length : Int) < (↑l.length : Int))) (False) ((AV.d (.sl (List.map ivD l)) = AV.d (.sl (List.map ivD l))) ∧ ((AV.fn g [AV.ptr 0 0, AV.ptr 1 0] = AV.fn g [AV.ptr 0 0, AV.ptr 1 0]) ∧ ((AV.d (.int .i64 (↑l.length : Int)) = AV.d (.int .i64 (↑l.length : Int))) ∧ ((AV.d (.int .i64 (↑l.length : Int)) = AV.d (.int .i64 (↑l.length : Int))) ∧ ((Ob.box [AV.d (.int .i64 u)] = Ob.box [AV.d (.int .i64 u)]) ∧ ((Ob.box [AV.d (.int .i64 s.b), AV.d (.str s.d), AV.d (.int .i64 s.n), AV.d (.sl (List.map ckD s.fl)), AV.d (.sl (List.map ivD s.cm))] = Ob.box [AV.d (.int .i64 s.b), AV.d (.str s.d), AV.d (.int .i64 s.n), AV.d (.sl (List.map ckD s.fl)), AV.d (.sl (List.map ivD s.cm))]) ∧ (True)))))))) (h := {}) (subs := []) (ws := []) (ρ := []) (by kernel_rfl) ?_
  repeat' (with_reducible first | exact True.intro | apply And.intro | (first | apply zA | apply zB | apply zC | apply zD | apply zE | apply zF | apply zG) <;> intro)
  all_goals (try simp only [List.length_map, AV.d.injEq, D.int.injEq, D.bool.injEq, D.str.injEq, D.sl.injEq, true_and, and_true, decide_eq_true_eq, decide_eq_false_iff_not, decide_eq_decide])
  all_goals (try simp only [List.length_map] at *)
  all_goals first | rfl | omega

set_option maxRecDepth 100000 in
set_option maxHeartbeats 1000000 in
theorem ivD_inB (g : Nat) (u : Int) (s : Sq) (l : List Iv) (hL : Loops Try.prog 2 (loopN Try.prog 85 0) ((ivD_IB g u s l 0).as 19) (.exit 0) ((ivD_IB g u s l l.length).as 19)) : FnOK Try.prog 85 ([.d (.sl (l.map ivD)), .fn g [.ptr 0 0, .ptr 1 0]]) ([.box [.d (.int .i64 u)], sqB s]) (.d (.int .i64 (-1))) ([.box [.d (.int .i64 u)], sqB s]) := by
  refine fnOK_wp (p := (AV.d (.sl (List.map ivD l)) = AV.d (.sl (List.map ivD l))) ∧ ((AV.fn g [AV.ptr 0 0, AV.ptr 1 0] = AV.fn g [AV.ptr 0 0, AV.ptr 1 0]) ∧ ((AV.d (.int .i64 (↑(List.map ivD l).length : Int)) = AV.d (.int .i64 (↑l.length : Int))) ∧ ((AV.d (.int .i64 (0 : Int)) = AV.d (.int .i64 (0 : Int))) ∧ ((Ob.box [AV.d (.int .i64 u)] = Ob.box [AV.d (.int .i64 u)]) ∧ ((Ob.box [AV.d (.int .i64 s.b), AV.d (.str s.d), AV.d (.int .i64 s.n), AV.d (.sl (List.map ckD s.fl)), AV.d (.sl (List.map ivD s.cm))] = Ob.box [AV.d (.int .i64 s.b), AV.d (.str s.d), AV.d (.int .i64 s.n), AV.d (.sl (List.map ckD s.fl)), AV.d (.sl (List.map ivD s.cm))]) ∧ ((LoopsS Try.prog 2 (loopN Try.prog 85 0) (ivD_IB g u s l 0) (Exit.exit 0) (ivD_IB g u s l l.length) 19) ∧ ((AV.d (.int .i64 (-1 : Int)) = AV.d (.int .i64 (-1 : Int))) ∧ ((Ob.box [AV.d (.int .i64 u)] = Ob.box [AV.d (.int .i64 u)]) ∧ ((Ob.box [AV.d (.int .i64 s.b), AV.d (.str s.d), AV.d (.int .i64 s.n), AV.d (.sl (List.map ckD s.fl)), AV.d (.sl (List.map ivD s.cm))] = Ob.box [AV.d (.int .i64 s.b), AV.d (.str s.d), AV.d (.int .i64 s.n), AV.d (.sl (List.map ckD s.fl)), AV.d (.sl (List.map ivD s.cm))]) ∧ (True))))))))))) (h := {}) (subs := [⟨[], [], ivD_IB g u s l 0, .exit 0, ivD_IB g u s l l.length⟩]) (ws := []) (ρ := []) (by kernel_rfl) ?_
  simp only [List.length_map]
  repeat' (with_reducible first | exact True.intro | apply And.intro | (first | apply zA | apply zB | apply zC | apply zD | apply zE | apply zF | apply zG) <;> intro)
  all_goals first | exact hL | rfl | skip

set_option maxRecDepth 100000 in
set_option maxHeartbeats 1000000 in
theorem ivD_iyB (g : Nat) (u : Int) (s : Sq) (l : List Iv) (m : Nat) (hL : Loops Try.prog 2 (loopN Try.prog 85 0) ((ivD_IB g u s l 0).as 19) .ret ((ivD_IOB g u s m).as 19)) : FnOK Try.prog 85 ([.d (.sl (l.map ivD)), .fn g [.ptr 0 0, .ptr 1 0]]) ([.box [.d (.int .i64 u)], sqB s]) (.d (.int .i64 m)) ([.box [.d (.int .i64 u)], sqB s]) := by
  refine fnOK_wp (p := (AV.d (.sl (List.map ivD l)) = AV.d (.sl (List.map ivD l))) ∧ ((AV.fn g [AV.ptr 0 0, AV.ptr 1 0] = AV.fn g [AV.ptr 0 0, AV.ptr 1 0]) ∧ ((AV.d (.int .i64 (↑(List.map ivD l).length : Int)) = AV.d (.int .i64 (↑l.length : Int))) ∧ ((AV.d (.int .i64 (0 : Int)) = AV.d (.int .i64 (0 : Int))) ∧ ((Ob.box [AV.d (.int .i64 u)] = Ob.box [AV.d (.int .i64 u)]) ∧ ((Ob.box [AV.d (.int .i64 s.b), AV.d (.str s.d), AV.d (.int .i64 s.n), AV.d (.sl (List.map ckD s.fl)), AV.d (.sl (List.map ivD s.cm))] = Ob.box [AV.d (.int .i64 s.b), AV.d (.str s.d), AV.d (.int .i64 s.n), AV.d (.sl (List.map ckD s.fl)), AV.d (.sl (List.map ivD s.cm))]) ∧ ((LoopsS Try.prog 2 (loopN Try.prog 85 0) (ivD_IB g u s l 0) Exit.ret (ivD_IOB g u s (↑m : Int)) 19) ∧ ((AV.d (.int .i64 (↑m : Int)) = AV.d (.int .i64 (↑m : Int))) ∧ ((Ob.box [AV.d (.int .i64 u)] = Ob.box [AV.d (.int .i64 u)]) ∧ ((Ob.box [AV.d (.int .i64 s.b), AV.d (.str s.d), AV.d (.int .i64 s.n), AV.d (.sl (List.map ckD s.fl)), AV.d (.sl (List.map ivD s.cm))] = Ob.box [AV.d (.int .i64 s.b), AV.d (.str s.d), AV.d (.int .i64 s.n), AV.d (.sl (List.map ckD s.fl)), AV.d (.sl (List.map ivD s.cm))]) ∧ (True))))))))))) (h := {}) (subs := [⟨[], [], ivD_IB g u s l 0, .ret, ivD_IOB g u s m⟩]) (ws := []) (ρ := []) (by kernel_rfl) ?_
  simp only [List.length_map]
  repeat' (with_reducible first | exact True.intro | apply And.intro | (first | apply zA | apply zB | apply zC | apply zD | apply zE | apply zF | apply zG) <;> intro)
  all_goals first | exact hL | rfl | skip

theorem ivD_firstB (g : Nat) (u : Int) (s : Sq) (F : Iv → Bool) (l : List Iv) (hl : l.length < 1073741824) (hF : ∀ x ∈ l, FnOK Try.prog g [.d (ivD x), .ptr 0 0, .ptr 1 0] [.box [.d (.int .i64 u)], sqB s] (.d (.bool (F x))) [.box [.d (.int .i64 u)], sqB s]) :
    ((∀ x ∈ l, F x = false) ∧ FnOK Try.prog 85 [.d (.sl (l.map ivD)), .fn g [.ptr 0 0, .ptr 1 0]] [.box [.d (.int .i64 u)], sqB s] (.d (.int .i64 (-1))) [.box [.d (.int .i64 u)], sqB s]) ∨ ∃ (m : Nat) (x : Iv), l[m]? = some x ∧ F x = true ∧ (∀ (j : Nat) (y : Iv), j < m → l[j]? = some y → F y = false) ∧ FnOK Try.prog 85 [.d (.sl (l.map ivD)), .fn g [.ptr 0 0, .ptr 1 0]] [.box [.d (.int .i64 u)], sqB s] (.d (.int .i64 m)) [.box [.d (.int .i64 u)], sqB s] := by
  rcases all_or (fun x => F x = false) l with h | ⟨m, x, h1, h2, h3⟩
  · exact .inl ⟨h, ivD_inB g u s l (loops_n (I := fun j => (ivD_IB g u s l j).as 19) (by simp) l.length 0 (by omega) (fun j _ hj => ivD_irB g u s l hl j l[j] (get_of hj) (by have := hF _ (List.getElem_mem hj); rw [h _ (List.getElem_mem hj)] at this; exact this)) (ivD_iqB g u s l))⟩
  · have hm := get_lt h1
    have h2 : F x = true := by cases hw : F x; exact absurd hw h2; rfl
    exact .inr ⟨m, x, h1, h2, h3, ivD_iyB g u s l m (loops_n (I := fun j => (ivD_IB g u s l j).as 19) (by simp) m 0 (by omega) (fun j _ hj => ivD_irB g u s l hl j (l[j]'(by omega)) (get_of _) (by have := hF (l[j]'(by omega)) (List.getElem_mem _); rw [h3 j _ hj (get_of _)] at this; exact this)) (ivD_ieB g u s l hl m x h1 (by have := hF _ (get_mem h1); rw [h2] at this; exact this)))⟩

set_option maxRecDepth 100000 in
set_option maxHeartbeats 1000000 in
theorem ivD_cfB (g : Nat) (u : Int) (s : Sq) (l : List Iv) (k : Int) (h : FnOK Try.prog 85 [.d (.sl (l.map ivD)), .fn g [.ptr 0 0, .ptr 1 0]] [.box [.d (.int .i64 u)], sqB s] (.d (.int .i64 k)) [.box [.d (.int .i64 u)], sqB s]) : FnOK Try.prog 71 ([.d (.sl (l.map ivD)), .fn g [.ptr 0 0, .ptr 1 0]]) ([.box [.d (.int .i64 u)], sqB s]) (.d (.bool (decide (k ≥ 0)))) ([.box [.d (.int .i64 u)], sqB s]) := by
  refine fnOK_wp (p := (FnOK Try.prog 85 [AV.d (.sl (List.map ivD l)), AV.fn g [AV.ptr 0 0, AV.ptr 1 0]] [Ob.box [AV.d (.int .i64 u)], Ob.box [AV.d (.int .i64 s.b), AV.d (.str s.d), AV.d (.int .i64 s.n), AV.d (.sl (List.map ckD s.fl)), AV.d (.sl (List.map ivD s.cm))]] (AV.d (.int .i64 k)) [Ob.box [AV.d (.int .i64 u)], Ob.box [AV.d (.int .i64 s.b), AV.d (.str s.d), AV.d (.int .i64 s.n), AV.d (.sl (List.map ckD s.fl)), AV.d (.sl (List.map ivD s.cm))]]) ∧ ((AV.d (.bool (decide (k ≥ (0 : Int)))) = AV.d (.bool (decide (k ≥ (0 : Int))))) ∧ ((Ob.box [AV.d (.int .i64 u)] = Ob.box [AV.d (.int .i64 u)]) ∧ ((Ob.box [AV.d (.int .i64 s.b), AV.d (.str s.d), AV.d (.int .i64 s.n), AV.d (.sl (List.map ckD s.fl)), AV.d (.sl (List.map ivD s.cm))] = Ob.box [AV.d (.int .i64 s.b), AV.d (.str s.d), AV.d (.int .i64 s.n), AV.d (.sl (List.map ckD s.fl)), AV.d (.sl (List.map ivD s.cm))]) ∧ (True))))) (h := {H := [(1, [(2, .call [0, 1] (.d (.int .i64 k)) [.box [.d (.int .i64 u)], sqB s])])]}) (subs := []) (ws := []) (ρ := []) (by kernel_rfl) ?_
  repeat' (with_reducible first | exact True.intro | apply And.intro | (first | apply zA | apply zB | apply zC | apply zD | apply zE | apply zF | apply zG) <;> intro)
  all_goals first | exact h | rfl | skip

theorem ivD_containsB (g : Nat) (u : Int) (s : Sq) (F : Iv → Bool) (l : List Iv) (hl : l.length < 1073741824) (hF : ∀ x ∈ l, FnOK Try.prog g [.d (ivD x), .ptr 0 0, .ptr 1 0] [.box [.d (.int .i64 u)], sqB s] (.d (.bool (F x))) [.box [.d (.int .i64 u)], sqB s]) : FnOK Try.prog 71 [.d (.sl (l.map ivD)), .fn g [.ptr 0 0, .ptr 1 0]] [.box [.d (.int .i64 u)], sqB s] (.d (.bool (l.any F))) [.box [.d (.int .i64 u)], sqB s] := by
  rcases ivD_firstB g u s F l hl hF with ⟨h1, h2⟩ | ⟨m, x, h1, h2, -, h3⟩
  · have e : l.any F = false := by rw [List.any_eq_false]; intro x hx; rw [h1 x hx]; simp
    rw [e]
    exact ivD_cfB g u s l _ h2
  · have e : l.any F = true := List.any_eq_true.2 ⟨x, get_mem h1, h2⟩
    rw [e]
    have := ivD_cfB g u s l _ h3
    rw [decide_eq_true (p := (m : Int) ≥ 0) (by omega)] at this
    exact this


/-! ### May -/
def outB (s : Sq) (u : Int) (x : Iv) : Bool := decide (x.1 < u) || decide (x.2 > s.n)
set_option maxRecDepth 100000 in
set_option maxHeartbeats 1000000 in
theorem may72 (s : Sq) (u : Int) (x : Iv) : FnOK Try.prog 72 ([.d (ivD x), .ptr 0 0, .ptr 1 0]) ([.box [.d (.int .i64 u)], sqB s]) (.d (.bool (outB s u x))) ([.box [.d (.int .i64 u)], sqB s]) := by
  refine fnOK_wp (p := condP (decide (x.fst < u)) ((D.bool (decide (x.fst < u)) = D.bool true) ∧ ((AV.d (.bool true) = AV.d (.bool (outB s u x))) ∧ ((Ob.box [AV.d (.int .i64 u)] = Ob.box [AV.d (.int .i64 u)]) ∧ ((Ob.box [AV.d (.int .i64 s.b), AV.d (.str s.d), AV.d (.int .i64 s.n), AV.d (.sl (List.map ckD s.fl)), AV.d (.sl (List.map ivD s.cm))] = Ob.box [AV.d (.int .i64 s.b), AV.d (.str s.d), AV.d (.int .i64 s.n), AV.d (.sl (List.map ckD s.fl)), AV.d (.sl (List.map ivD s.cm))]) ∧ (True))))) ((D.bool (decide (x.fst < u)) = D.bool false) ∧ ((AV.d (.bool (decide (x.snd > s.n))) = AV.d (.bool (outB s u x))) ∧ ((Ob.box [AV.d (.int .i64 u)] = Ob.box [AV.d (.int .i64 u)]) ∧ ((Ob.box [AV.d (.int .i64 s.b), AV.d (.str s.d), AV.d (.int .i64 s.n), AV.d (.sl (List.map ckD s.fl)), AV.d (.sl (List.map ivD s.cm))] = Ob.box [AV.d (.int .i64 s.b), AV.d (.str s.d), AV.d (.int .i64 s.n), AV.d (.sl (List.map ckD s.fl)), AV.d (.sl (List.map ivD s.cm))]) ∧ (True)))))) (h := {}) (subs := []) (ws := []) (ρ := []) (by kernel_rfl) ?_
  unfold outB
  repeat' (with_reducible first | exact True.intro | apply And.intro | (first | apply zA | apply zB | apply zC | apply zD | apply zE | apply zF | apply zG) <;> intro)
  all_goals first | rfl | exact dyes ‹_› | exact dno ‹_› | (rw [decide_eq_false (p := x.1 < u) (by assumption)]; rfl) | (rw [decide_eq_true (p := x.1 < u) (by assumption)]; rfl) | (refine congrArg (fun z => AV.d (.bool z)) ?_; simp_all; done) | (refine congrArg D.bool ?_; simp_all; done) | skip

def mayQ (s : Sq) (u : Int) (l : List Iv) : Bool := decide (sChk s = 0 ∧ s.b ≤ u ∧ u ≤ s.n ∧ iChk l = 0) && !l.any (outB s u)
set_option maxRecDepth 100000 in
set_option maxHeartbeats 1000000 in
theorem may45n (s : Sq) (u : Int) (l : List Iv) (e f : Int) (k1 : FnOK Try.prog 28 [.d (sqD s)] [] (.d (.int .i64 e)) []) (k2 : FnOK Try.prog 67 [.d (.sl (l.map ivD))] [] (.d (.int .i64 f)) []) (h : ¬(e = 0 ∧ s.b ≤ u ∧ u ≤ s.n ∧ f = 0)) : FnOK Try.prog 45 ([.d (sqD s), .d (.int .i64 u), .d (.sl (l.map ivD))]) ([]) (.d (.bool false)) ([]) := by
  refine fnOK_wp (p := condP (e != (0 : Int)) ((FnOK Try.prog 28 [AV.d (.agg [D.int .i64 s.b, D.str s.d, D.int .i64 s.n, D.sl (List.map ckD s.fl), D.sl (List.map ivD s.cm)])] [] (AV.d (.int .i64 e)) []) ∧ ((D.bool (e != (0 : Int)) = D.bool true) ∧ ((D.bool true = D.bool true) ∧ ((D.bool true = D.bool true) ∧ ((D.bool true = D.bool true) ∧ ((AV.d (.bool false) = AV.d (.bool false)) ∧ (True))))))) (condP (decide (u < s.b)) ((FnOK Try.prog 28 [AV.d (.agg [D.int .i64 s.b, D.str s.d, D.int .i64 s.n, D.sl (List.map ckD s.fl), D.sl (List.map ivD s.cm)])] [] (AV.d (.int .i64 e)) []) ∧ ((D.bool (e != (0 : Int)) = D.bool false) ∧ ((D.bool (decide (u < s.b)) = D.bool true) ∧ ((D.bool true = D.bool true) ∧ ((D.bool true = D.bool true) ∧ ((AV.d (.bool false) = AV.d (.bool false)) ∧ (True))))))) (condP (decide (u > s.n)) ((FnOK Try.prog 28 [AV.d (.agg [D.int .i64 s.b, D.str s.d, D.int .i64 s.n, D.sl (List.map ckD s.fl), D.sl (List.map ivD s.cm)])] [] (AV.d (.int .i64 e)) []) ∧ ((D.bool (e != (0 : Int)) = D.bool false) ∧ ((D.bool (decide (u < s.b)) = D.bool false) ∧ ((D.bool (decide (u > s.n)) = D.bool true) ∧ ((D.bool true = D.bool true) ∧ ((AV.d (.bool false) = AV.d (.bool false)) ∧ (True))))))) ((FnOK Try.prog 28 [AV.d (.agg [D.int .i64 s.b, D.str s.d, D.int .i64 s.n, D.sl (List.map ckD s.fl), D.sl (List.map ivD s.cm)])] [] (AV.d (.int .i64 e)) []) ∧ ((D.bool (e != (0 : Int)) = D.bool false) ∧ ((D.bool (decide (u < s.b)) = D.bool false) ∧ ((D.bool (decide (u > s.n)) = D.bool false) ∧ ((FnOK Try.prog 67 [AV.d (.sl (List.map ivD l))] [] (AV.d (.int .i64 f)) []) ∧ ((D.bool (f != (0 : Int)) = D.bool true) ∧ ((AV.d (.bool false) = AV.d (.bool false)) ∧ (True))))))))))) (h := {H := [(1, [(1, .call [] (.d (.int .i64 e)) []), (17, .call [] (.d (.int .i64 f)) []), (19, .val (.bool true))])]}) (subs := []) (ws := []) (ρ := []) (by kernel_rfl) ?_
  repeat' (with_reducible first | exact True.intro | apply And.intro | (first | apply zA | apply zB | apply zC | apply zD | apply zE | apply zF | apply zG) <;> intro)
  all_goals first | exact k1 | exact k2 | rfl | exact dyes (by omega) | (refine congrArg D.bool ?_; rw [bne_iff_ne]; omega) | (exfalso; omega) | (refine congrArg D.bool ?_; simp_all; done) | (exfalso; simp_all; omega) | skip

set_option maxRecDepth 100000 in
set_option maxHeartbeats 1000000 in
theorem may45y (s : Sq) (u : Int) (l : List Iv) (e f : Int) (k1 : FnOK Try.prog 28 [.d (sqD s)] [] (.d (.int .i64 e)) []) (k2 : FnOK Try.prog 67 [.d (.sl (l.map ivD))] [] (.d (.int .i64 f)) []) (h : e = 0 ∧ s.b ≤ u ∧ u ≤ s.n ∧ f = 0) (q : Bool) (k3 : FnOK Try.prog 71 [.d (.sl (l.map ivD)), .fn 72 [.ptr 0 0, .ptr 1 0]] [.box [.d (.int .i64 u)], sqB s] (.d (.bool q)) [.box [.d (.int .i64 u)], sqB s]) : FnOK Try.prog 45 ([.d (sqD s), .d (.int .i64 u), .d (.sl (l.map ivD))]) ([]) (.d (.bool (!q))) ([]) := by
  refine fnOK_wp (p := (FnOK Try.prog 28 [AV.d (.agg [D.int .i64 s.b, D.str s.d, D.int .i64 s.n, D.sl (List.map ckD s.fl), D.sl (List.map ivD s.cm)])] [] (AV.d (.int .i64 e)) []) ∧ ((D.bool (e != (0 : Int)) = D.bool false) ∧ ((D.bool (decide (u < s.b)) = D.bool false) ∧ ((D.bool (decide (u > s.n)) = D.bool false) ∧ ((FnOK Try.prog 67 [AV.d (.sl (List.map ivD l))] [] (AV.d (.int .i64 f)) []) ∧ ((D.bool (f != (0 : Int)) = D.bool false) ∧ ((FnOK Try.prog 71 [AV.d (.sl (List.map ivD l)), AV.fn 72 [AV.ptr 0 0, AV.ptr 1 0]] [Ob.box [AV.d (.int .i64 u)], Ob.box [AV.d (.int .i64 s.b), AV.d (.str s.d), AV.d (.int .i64 s.n), AV.d (.sl (List.map ckD s.fl)), AV.d (.sl (List.map ivD s.cm))]] (AV.d (.bool q)) [Ob.box [AV.d (.int .i64 u)], Ob.box [AV.d (.int .i64 s.b), AV.d (.str s.d), AV.d (.int .i64 s.n), AV.d (.sl (List.map ckD s.fl)), AV.d (.sl (List.map ivD s.cm))]]) ∧ ((AV.d (.bool !q) = AV.d (.bool !q)) ∧ (True))))))))) (h := {H := [(1, [(1, .call [] (.d (.int .i64 e)) []), (3, .val (.bool false)), (9, .val (.bool false)), (15, .val (.bool false)), (17, .call [] (.d (.int .i64 f)) []), (19, .val (.bool false))]), (3, [(2, .call [1032, 1024] (.d (.bool q)) [.box [.d (.int .i64 u)], sqB s])])]}) (subs := []) (ws := []) (ρ := []) (by kernel_rfl) ?_
  repeat' (with_reducible first | exact True.intro | apply And.intro | (first | apply zA | apply zB | apply zC | apply zD | apply zE | apply zF | apply zG) <;> intro)
  all_goals first | exact k1 | exact k2 | exact k3 | rfl | exact dno (by omega) | (refine congrArg D.bool ?_; simp [h.1]; done) | (refine congrArg D.bool ?_; simp [h.2.2.2]; done) | skip

theorem may45 (s : Sq) (h : SqOk s) (u : Int) (l : List Iv) (hl : l.length < 100000) : FnOK Try.prog 45 [.d (sqD s), .d (.int .i64 u), .d (.sl (l.map ivD))] [] (.d (.bool (mayQ s u l))) [] := by
  have k1 := chk28 s (by have := h.fl; omega) (by have := h.cm; omega)
  have k2 := chk19 l (by omega)
  unfold mayQ
  by_cases g : sChk s = 0 ∧ s.b ≤ u ∧ u ≤ s.n ∧ iChk l = 0
  · rw [decide_eq_true g, Bool.true_and]
    exact may45y s u l _ _ k1 k2 g _ (ivD_containsB _ u s (outB s u) l (by omega) fun x _ => may72 s u x)
  · rw [decide_eq_false g, Bool.false_and]
    exact may45n s u l _ _ k1 k2 g
/-! ### What is left of a chunk -/
def part (c : Ck) (x : Iv) : Ck := { c with f := x.1, t := x.2 }
def lft (c : Ck) (all : List Iv) : List Ck := (rGaps all (ckI c)).map (part c)
def szS (n : Int) (x : Ck) : Int := IntKind.i64.wrap (n + cSz x)
def someB (c : Ck) (all : List Iv) : Bool := decide ((lft c all).foldl szS 0 < cSz c)
def ckB (c : Ck) : Ob := .box [.d (.int .i64 c.f), .d (.int .i64 c.t), .d (.int .i64 c.s), .d (.int .i64 c.r), .d (.bool c.l)]
def I47 (c : Ck) (g : List Iv) (m : List Ck) (n : Int) (j : Nat) : St := ⟨[(2, .ptr 0 0), (6, .own 1 5), (7, .d (.int .i64 n)), (14, .d (.sl (g.map ivD))), (15, .d (.int .i64 g.length)), (16, .d (.int .i64 j))], [(0, ckB c), (1, .row 5 (m.map ckD))]⟩
set_option maxRecDepth 100000 in
set_option maxHeartbeats 1000000 in
theorem r47 (c : Ck) (g : List Iv) (hl : g.length < 1000000) (m : List Ck) (hm : m.length < 1000000) (n : Int) (j : Nat) (x : Iv) (hn : g[j]? = some x) (k1 : FnOK Try.prog 37 [.d (ckD (part c x))] [] (.d (.int .i64 (cSz (part c x)))) []) : Runs Try.prog 0 (loopN Try.prog 47 0) (St.as (I47 c g m n j) 41) (.normal) (St.as (I47 c g (m ++ [part c x]) (szS n (part c x)) (j+1)) 41) := by
  refine round_wp (p := condP (decide ((↑j : Int) < (↑g.length : Int))) (((0 : Int) ≤ (↑j : Int)) ∧ (((List.map ivD g)[(↑j : Int).toNat]? = some (D.agg [D.int .i64 x.fst, D.int .i64 x.snd])) ∧ ((((List.map ckD m).length + [D.agg (List.take 5 [D.int .i64 x.fst, D.int .i64 x.snd, D.int .i64 c.s, D.int .i64 c.r, D.bool c.l])].length) * 40 ≤ 140737488355328) ∧ ((∀ (e : D), e ∈ chunk 5 1 [D.int .i64 x.fst, D.int .i64 x.snd, D.int .i64 c.s, D.int .i64 c.r, D.bool c.l] → e.cells.length = 5) ∧ ((FnOK Try.prog 37 [AV.d (.agg [D.int .i64 x.fst, D.int .i64 x.snd, D.int .i64 c.s, D.int .i64 c.r, D.bool c.l])] [] (AV.d (.int .i64 (cSz (part c x)))) []) ∧ ((AV.ptr 0 0 = AV.ptr 0 0) ∧ ((AV.own 1240 5 = AV.own 1240 5) ∧ ((AV.d (.int .i64 (IntKind.i64.wrap (n + cSz (part c x)))) = AV.d (.int .i64 (szS n (part c x)))) ∧ ((AV.d (.sl (List.map ivD g)) = AV.d (.sl (List.map ivD g))) ∧ ((AV.d (.int .i64 (↑g.length : Int)) = AV.d (.int .i64 (↑g.length : Int))) ∧ ((AV.d (.int .i64 (IntKind.i64.wrap ((↑j : Int) + (1 : Int)))) = AV.d (.int .i64 (↑(j + 1) : Int))) ∧ ((Ob.box [AV.d (.int .i64 c.f), AV.d (.int .i64 c.t), AV.d (.int .i64 c.s), AV.d (.int .i64 c.r), AV.d (.bool c.l)] = Ob.box [AV.d (.int .i64 c.f), AV.d (.int .i64 c.t), AV.d (.int .i64 c.s), AV.d (.int .i64 c.r), AV.d (.bool c.l)]) ∧ ((Ob.row 5 (List.map ckD m ++ [D.agg (List.take 5 [D.int .i64 x.fst, D.int .i64 x.snd, D.int .i64 c.s, D.int .i64 c.r, D.bool c.l])]) = Ob.row 5 (List.map ckD (m ++ [part c x]))) ∧ (True)))))))))))))) (False)) (h := {els := [(14, .el (ivD x))], H := [(9, [(2, .call [] (.d (.int .i64 (cSz (part c x)))) [])])]}) (subs := []) (ws := []) (ρ := []) (by kernel_rfl) ?_
  have hj := get_lt hn
  have hi := inc_i64 (j := j) (by omega)
  have hcm : (m ++ [part c x]).map ckD = m.map ckD ++ [ckD (part c x)] := by simp
  try simp only [hi]
  refine condP_t (by rw [decide_eq_true_eq]; omega) ?_
  repeat' (with_reducible first | exact True.intro | apply And.intro | (first | apply zA | apply zB | apply zC | apply zD | apply zE | apply zF | apply zG) <;> intro)
  all_goals first | exact k1 | exact el_map hn rfl | rfl | omega | exact congrArg (Ob.row 5) hcm.symm | (simp; omega) | (simp [chunk, ckD, D.cells]; done) | skip

set_option maxRecDepth 100000 in
set_option maxHeartbeats 1000000 in
theorem q47 (c : Ck) (g : List Iv) (m : List Ck) (n : Int) : Runs Try.prog 0 (loopN Try.prog 47 0) (St.as (I47 c g m n g.length) 41) (.exit 0) (St.as (I47 c g m n g.length) 41) := by
  refine round_wp (p := condP (decide ((↑g.length : Int) < (↑g.length : Int))) (False) ((AV.ptr 0 0 = AV.ptr 0 0) ∧ ((AV.own 1 5 = AV.own 1 5) ∧ ((AV.d (.int .i64 n) = AV.d (.int .i64 n)) ∧ ((AV.d (.sl (List.map ivD g)) = AV.d (.sl (List.map ivD g))) ∧ ((AV.d (.int .i64 (↑g.length : Int)) = AV.d (.int .i64 (↑g.length : Int))) ∧ ((AV.d (.int .i64 (↑g.length : Int)) = AV.d (.int .i64 (↑g.length : Int))) ∧ ((Ob.box [AV.d (.int .i64 c.f), AV.d (.int .i64 c.t), AV.d (.int .i64 c.s), AV.d (.int .i64 c.r), AV.d (.bool c.l)] = Ob.box [AV.d (.int .i64 c.f), AV.d (.int .i64 c.t), AV.d (.int .i64 c.s), AV.d (.int .i64 c.r), AV.d (.bool c.l)]) ∧ ((Ob.row 5 (List.map ckD m) = Ob.row 5 (List.map ckD m)) ∧ (True)))))))))) (h := {}) (subs := []) (ws := []) (ρ := []) (by kernel_rfl) ?_
  repeat' (with_reducible first | exact True.intro | apply And.intro | (first | apply zA | apply zB | apply zC | apply zD | apply zE | apply zF | apply zG) <;> intro)
  all_goals first | rfl | omega

set_option maxRecDepth 100000 in
set_option maxHeartbeats 1000000 in
theorem wo47 (c : Ck) (l g : List Iv) (m : List Ck) (n : Int) (k1 : FnOK Try.prog 74 [.d (ckD c)] [] (.d (ivD (ckI c))) []) (k2 : FnOK Try.prog 73 [.d (.sl (l.map ivD)), .d (ivD (ckI c))] [] (.d (.sl (g.map ivD))) []) (k3 : FnOK Try.prog 37 [.d (ckD c)] [] (.d (.int .i64 (cSz c))) []) (hL : Loops Try.prog 0 (loopN Try.prog 47 0) ((I47 c g [] 0 0).as 41) (.exit 0) ((I47 c g m n g.length).as 41)) : FnOK Try.prog 47 ([.d (ckD c), .d (.sl (l.map ivD))]) ([]) (.tup [.d (.sl (m.map ckD)), .d (.bool (decide (n < cSz c)))]) ([]) := by
  refine fnOK_wp (p := (FnOK Try.prog 74 [AV.d (.agg [D.int .i64 c.f, D.int .i64 c.t, D.int .i64 c.s, D.int .i64 c.r, D.bool c.l])] [] (AV.d (.agg [D.int .i64 (ckI c).fst, D.int .i64 (ckI c).snd])) []) ∧ ((FnOK Try.prog 73 [AV.d (.sl (List.map ivD l)), AV.d (.agg [D.int .i64 (ckI c).fst, D.int .i64 (ckI c).snd])] [] (AV.d (.sl (List.map ivD g))) []) ∧ ((AV.ptr 1016 0 = AV.ptr 1016 0) ∧ ((AV.own 901 5 = AV.own 901 5) ∧ ((AV.d (.int .i64 (0 : Int)) = AV.d (.int .i64 (0 : Int))) ∧ ((AV.d (.sl (List.map ivD g)) = AV.d (.sl (List.map ivD g))) ∧ ((AV.d (.int .i64 (↑(List.map ivD g).length : Int)) = AV.d (.int .i64 (↑g.length : Int))) ∧ ((AV.d (.int .i64 (0 : Int)) = AV.d (.int .i64 (0 : Int))) ∧ ((Ob.box [AV.d (.int .i64 c.f), AV.d (.int .i64 c.t), AV.d (.int .i64 c.s), AV.d (.int .i64 c.r), AV.d (.bool c.l)] = Ob.box [AV.d (.int .i64 c.f), AV.d (.int .i64 c.t), AV.d (.int .i64 c.s), AV.d (.int .i64 c.r), AV.d (.bool c.l)]) ∧ ((Ob.row 5 [] = Ob.row 5 []) ∧ ((LoopsS Try.prog 0 (loopN Try.prog 47 0) (I47 c g [] (0 : Int) 0) (Exit.exit 0) (I47 c g m n g.length) 41) ∧ ((FnOK Try.prog 37 [AV.d (.agg [D.int .i64 c.f, D.int .i64 c.t, D.int .i64 c.s, D.int .i64 c.r, D.bool c.l])] [] (AV.d (.int .i64 (cSz c))) []) ∧ ((AV.tup [AV.d (.sl (List.map ckD m)), AV.d (.bool (decide (n < cSz c)))] = AV.tup [AV.d (.sl (List.map ckD m)), AV.d (.bool (decide (n < cSz c)))]) ∧ (True)))))))))))))) (h := {H := [(3, [(2, .call [] (.d (ivD (ckI c))) []), (3, .call [] (.d (.sl (g.map ivD))) [])]), (11, [(3, .call [] (.d (.int .i64 (cSz c))) [])])]}) (subs := [⟨[], [], I47 c g [] 0 0, .exit 0, I47 c g m n g.length⟩]) (ws := []) (ρ := []) (by kernel_rfl) ?_
  simp only [List.length_map]
  repeat' (with_reducible first | exact True.intro | apply And.intro | (first | apply zA | apply zB | apply zC | apply zD | apply zE | apply zF | apply zG) <;> intro)
  all_goals first | exact k1 | exact k2 | exact k3 | exact hL | rfl | skip

theorem without47 (c : Ck) (l : List Iv) (hl : l.length < 100000) : FnOK Try.prog 47 [.d (ckD c), .d (.sl (l.map ivD))] [] (.tup [.d (.sl ((lft c l).map ckD)), .d (.bool (someB c l))]) [] := by
  have k2 := gaps15 l (by omega) (ckI c)
  have hg := rGaps_len l (ckI c)
  unfold someB lft
  generalize rGaps l (ckI c) = g at *
  have hL := loops_n (P := Try.prog) (k := 0) (c := loopN Try.prog 47 0) (e := .exit 0) (I := fun j => (I47 c g ((g.take j).map (part c)) (((g.take j).map (part c)).foldl szS 0) j).as 41) (by simp) g.length 0 (by omega) (fun j _ hj => by
    have hn := get_of hj
    show Runs _ _ _ _ _ ((I47 c g ((g.take (j + 1)).map (part c)) (((g.take (j + 1)).map (part c)).foldl szS 0) (j + 1)).as _)
    rw [take_snoc hn, List.map_append, List.foldl_append]
    exact r47 c g (by omega) _ (by rw [List.length_map, List.length_take]; omega) _ j _ hn (size37 _ trivial trivial)) (by simp only [List.take_length]; exact q47 c g _ _)
  exact wo47 c l g _ _ (ival74 c trivial trivial) k2 (size37 c trivial trivial) hL
/-! ### What is lost -/
def farB (e : Int) (c : Ck) : Bool := !c.l && decide (IntKind.i64.wrap (e - c.t) ≥ 96)
def loseC (e : Int) (c : Ck) : Ck := if farB e c = true then { c with l := true } else c
def rLose (s : Sq) : Sq × Bool := match s.cm.getLast? with | none => (s, false) | some z => ({ s with fl := s.fl.map (loseC z.2) }, s.fl.any (farB z.2))
theorem mapTo_skip (f : Ck → Ck) {l : List Ck} {j : Nat} {c : Ck} (h : l[j]? = some c) (hf : f c = c) : mapTo f l (j + 1) = mapTo f l j := by
  rw [← mapTo_set f h, hf]
  have := mapTo_get f h
  exact List.ext_getElem? fun i => by
    rw [List.getElem?_set]
    split
    · next e => subst e; split; exact this.symm; exact (by rename_i g; rw [List.getElem?_eq_none (by omega)])
    · rfl
def I50 (s : Sq) (e : Int) (q : Bool) (j : Nat) : St := ⟨[(1, .ptr 1 0), (3, .d (.int .i64 e)), (4, .d (.bool q)), (22, .d (.int .i64 s.fl.length)), (23, .d (.int .i64 j))], [(0, .row 5 ((mapTo (loseC e) s.fl j).map ckD)), (1, .box [.d (.int .i64 s.b), .d (.str s.d), .d (.int .i64 s.n), .own 0 5, .d (.sl (s.cm.map ivD))])]⟩
set_option maxRecDepth 100000 in
set_option maxHeartbeats 1000000 in
theorem r50a (s : Sq) (hl : s.fl.length < 1000000000) (e : Int) (q : Bool) (j : Nat) (c : Ck) (hn : s.fl[j]? = some c) (hm : (mapTo (loseC e) s.fl j)[j]? = some c) (h1 : c.l = true) (hs : (mapTo (loseC e) s.fl j).map ckD = (mapTo (loseC e) s.fl (j+1)).map ckD) : Runs Try.prog 1 (loopN Try.prog 50 0) (St.as (I50 s e q j) 49) (.normal) (St.as (I50 s e q (j+1)) 49) := by
  refine round_wp (p := condP (decide ((↑j : Int) < (↑s.fl.length : Int))) (((0 : Int) ≤ (↑j : Int) ∧ (↑j : Int) < (↑(List.map ckD (mapTo (loseC e) s.fl j)).length : Int)) ∧ ((List.map ckD (mapTo (loseC e) s.fl j) ≠ []) ∧ (((↑j : Int).toNat < (List.map ckD (mapTo (loseC e) s.fl j)).length) ∧ ((5 = 5) ∧ (((List.map ckD (mapTo (loseC e) s.fl j))[(↑j : Int).toNat]? = some (D.agg [D.int .i64 c.f, D.int .i64 c.t, D.int .i64 c.s, D.int .i64 c.r, D.bool c.l])) ∧ (((D.bool !c.l) = D.bool false) ∧ ((AV.ptr 1 0 = AV.ptr 1 0) ∧ ((AV.d (.int .i64 e) = AV.d (.int .i64 e)) ∧ ((AV.d (.bool q) = AV.d (.bool q)) ∧ ((AV.d (.int .i64 (↑s.fl.length : Int)) = AV.d (.int .i64 (↑s.fl.length : Int))) ∧ ((AV.d (.int .i64 (IntKind.i64.wrap ((↑j : Int) + (1 : Int)))) = AV.d (.int .i64 (↑(j + 1) : Int))) ∧ ((Ob.row 5 (List.map ckD (mapTo (loseC e) s.fl j)) = Ob.row 5 (List.map ckD (mapTo (loseC e) s.fl (j + 1)))) ∧ ((Ob.box [AV.d (.int .i64 s.b), AV.d (.str s.d), AV.d (.int .i64 s.n), AV.own 0 5, AV.d (.sl (List.map ivD s.cm))] = Ob.box [AV.d (.int .i64 s.b), AV.d (.str s.d), AV.d (.int .i64 s.n), AV.own 0 5, AV.d (.sl (List.map ivD s.cm))]) ∧ (True)))))))))))))) (False)) (h := {els := [(32, .el (ckD c))], H := [(9, [(5, .val (.bool false))])]}) (subs := []) (ws := []) (ρ := []) (by kernel_rfl) ?_
  have hj := get_lt hn
  have hi := inc_i64 (j := j) (by omega)
  have hln := mapTo_len (loseC e) s.fl j
  have hne : (mapTo (loseC e) s.fl j).map ckD ≠ [] := fun g => by
    have := congrArg List.length g
    rw [List.length_map, hln, List.length_nil] at this
    omega
  try simp only [hi]
  refine condP_t (by rw [decide_eq_true_eq]; omega) ?_
  try simp only [Int.toNat_natCast]
  repeat' (with_reducible first | exact True.intro | apply And.intro | (first | apply zA | apply zB | apply zC | apply zD | apply zE | apply zF | apply zG) <;> intro)
  all_goals first | exact hne | exact el_map hm rfl | exact hs | exact congrArg (Ob.row 5) hs | rfl | omega | (simp [hln]; omega) | (refine congrArg D.bool ?_; simp [h1]; done) | exact dyes (by omega) | exact dno (by omega) | skip

set_option maxRecDepth 100000 in
set_option maxHeartbeats 1000000 in
theorem r50b (s : Sq) (hl : s.fl.length < 1000000000) (e : Int) (q : Bool) (j : Nat) (c : Ck) (hn : s.fl[j]? = some c) (hm : (mapTo (loseC e) s.fl j)[j]? = some c) (h1 : c.l = false) (h2 : ¬IntKind.i64.wrap (e - c.t) ≥ 96) (hs : (mapTo (loseC e) s.fl j).map ckD = (mapTo (loseC e) s.fl (j+1)).map ckD) : Runs Try.prog 1 (loopN Try.prog 50 0) (St.as (I50 s e q j) 49) (.normal) (St.as (I50 s e q (j+1)) 49) := by
  refine round_wp (p := condP (decide ((↑j : Int) < (↑s.fl.length : Int))) (((0 : Int) ≤ (↑j : Int) ∧ (↑j : Int) < (↑(List.map ckD (mapTo (loseC e) s.fl j)).length : Int)) ∧ ((List.map ckD (mapTo (loseC e) s.fl j) ≠ []) ∧ (((↑j : Int).toNat < (List.map ckD (mapTo (loseC e) s.fl j)).length) ∧ ((5 = 5) ∧ (((List.map ckD (mapTo (loseC e) s.fl j))[(↑j : Int).toNat]? = some (D.agg [D.int .i64 c.f, D.int .i64 c.t, D.int .i64 c.s, D.int .i64 c.r, D.bool c.l])) ∧ (((D.bool !c.l) = D.bool true) ∧ ((List.map ckD (mapTo (loseC e) s.fl j) ≠ []) ∧ (((↑j : Int).toNat < (List.map ckD (mapTo (loseC e) s.fl j)).length) ∧ ((5 = 5) ∧ (((List.map ckD (mapTo (loseC e) s.fl j))[(↑j : Int).toNat]? = some (D.agg [D.int .i64 c.f, D.int .i64 c.t, D.int .i64 c.s, D.int .i64 c.r, D.bool c.l])) ∧ ((D.bool (decide (IntKind.i64.wrap (e - c.t) ≥ (96 : Int))) = D.bool false) ∧ ((AV.ptr 1 0 = AV.ptr 1 0) ∧ ((AV.d (.int .i64 e) = AV.d (.int .i64 e)) ∧ ((AV.d (.bool q) = AV.d (.bool q)) ∧ ((AV.d (.int .i64 (↑s.fl.length : Int)) = AV.d (.int .i64 (↑s.fl.length : Int))) ∧ ((AV.d (.int .i64 (IntKind.i64.wrap ((↑j : Int) + (1 : Int)))) = AV.d (.int .i64 (↑(j + 1) : Int))) ∧ ((Ob.row 5 (List.map ckD (mapTo (loseC e) s.fl j)) = Ob.row 5 (List.map ckD (mapTo (loseC e) s.fl (j + 1)))) ∧ ((Ob.box [AV.d (.int .i64 s.b), AV.d (.str s.d), AV.d (.int .i64 s.n), AV.own 0 5, AV.d (.sl (List.map ivD s.cm))] = Ob.box [AV.d (.int .i64 s.b), AV.d (.str s.d), AV.d (.int .i64 s.n), AV.own 0 5, AV.d (.sl (List.map ivD s.cm))]) ∧ (True))))))))))))))))))) (False)) (h := {els := [(32, .el (ckD c)), (39, .el (ckD c))], H := [(9, [(5, .val (.bool true)), (12, .val (.bool false))])]}) (subs := []) (ws := []) (ρ := []) (by kernel_rfl) ?_
  have hj := get_lt hn
  have hi := inc_i64 (j := j) (by omega)
  have hln := mapTo_len (loseC e) s.fl j
  have hne : (mapTo (loseC e) s.fl j).map ckD ≠ [] := fun g => by
    have := congrArg List.length g
    rw [List.length_map, hln, List.length_nil] at this
    omega
  try simp only [hi]
  refine condP_t (by rw [decide_eq_true_eq]; omega) ?_
  try simp only [Int.toNat_natCast]
  repeat' (with_reducible first | exact True.intro | apply And.intro | (first | apply zA | apply zB | apply zC | apply zD | apply zE | apply zF | apply zG) <;> intro)
  all_goals first | exact hne | exact el_map hm rfl | exact hs | exact congrArg (Ob.row 5) hs | rfl | omega | (simp [hln]; omega) | (refine congrArg D.bool ?_; simp [h1]; done) | exact dyes (by omega) | exact dno (by omega) | skip

set_option maxRecDepth 100000 in
set_option maxHeartbeats 1000000 in
theorem r50c (s : Sq) (hl : s.fl.length < 1000000000) (e : Int) (q : Bool) (j : Nat) (c : Ck) (hn : s.fl[j]? = some c) (hm : (mapTo (loseC e) s.fl j)[j]? = some c) (h1 : c.l = false) (h2 : IntKind.i64.wrap (e - c.t) ≥ 96) (hs : ((mapTo (loseC e) s.fl j).map ckD).set j (ckD { c with l := true }) = (mapTo (loseC e) s.fl (j+1)).map ckD) : Runs Try.prog 1 (loopN Try.prog 50 0) (St.as (I50 s e q j) 49) (.normal) (St.as (I50 s e true (j+1)) 49) := by
  refine round_wp (p := condP (decide ((↑j : Int) < (↑s.fl.length : Int))) (((0 : Int) ≤ (↑j : Int) ∧ (↑j : Int) < (↑(List.map ckD (mapTo (loseC e) s.fl j)).length : Int)) ∧ ((List.map ckD (mapTo (loseC e) s.fl j) ≠ []) ∧ (((↑j : Int).toNat < (List.map ckD (mapTo (loseC e) s.fl j)).length) ∧ ((5 = 5) ∧ (((List.map ckD (mapTo (loseC e) s.fl j))[(↑j : Int).toNat]? = some (D.agg [D.int .i64 c.f, D.int .i64 c.t, D.int .i64 c.s, D.int .i64 c.r, D.bool c.l])) ∧ (((D.bool !c.l) = D.bool true) ∧ ((List.map ckD (mapTo (loseC e) s.fl j) ≠ []) ∧ (((↑j : Int).toNat < (List.map ckD (mapTo (loseC e) s.fl j)).length) ∧ ((5 = 5) ∧ (((List.map ckD (mapTo (loseC e) s.fl j))[(↑j : Int).toNat]? = some (D.agg [D.int .i64 c.f, D.int .i64 c.t, D.int .i64 c.s, D.int .i64 c.r, D.bool c.l])) ∧ ((D.bool (decide (IntKind.i64.wrap (e - c.t) ≥ (96 : Int))) = D.bool true) ∧ ((List.map ckD (mapTo (loseC e) s.fl j) ≠ []) ∧ (((↑j : Int).toNat < (List.map ckD (mapTo (loseC e) s.fl j)).length) ∧ ((5 = 5) ∧ (((List.map ckD (mapTo (loseC e) s.fl j))[(↑j : Int).toNat]? = some (D.agg [D.int .i64 c.f, D.int .i64 c.t, D.int .i64 c.s, D.int .i64 c.r, D.bool c.l])) ∧ ((AV.ptr 1 0 = AV.ptr 1 0) ∧ ((AV.d (.int .i64 e) = AV.d (.int .i64 e)) ∧ ((AV.d (.bool true) = AV.d (.bool true)) ∧ ((AV.d (.int .i64 (↑s.fl.length : Int)) = AV.d (.int .i64 (↑s.fl.length : Int))) ∧ ((AV.d (.int .i64 (IntKind.i64.wrap ((↑j : Int) + (1 : Int)))) = AV.d (.int .i64 (↑(j + 1) : Int))) ∧ ((Ob.row 5 ((List.map ckD (mapTo (loseC e) s.fl j)).set (↑j : Int).toNat (D.agg (List.take 4 [D.int .i64 c.f, D.int .i64 c.t, D.int .i64 c.s, D.int .i64 c.r, D.bool c.l] ++ [D.bool true] ++ List.drop 5 [D.int .i64 c.f, D.int .i64 c.t, D.int .i64 c.s, D.int .i64 c.r, D.bool c.l]))) = Ob.row 5 (List.map ckD (mapTo (loseC e) s.fl (j + 1)))) ∧ ((Ob.box [AV.d (.int .i64 s.b), AV.d (.str s.d), AV.d (.int .i64 s.n), AV.own 0 5, AV.d (.sl (List.map ivD s.cm))] = Ob.box [AV.d (.int .i64 s.b), AV.d (.str s.d), AV.d (.int .i64 s.n), AV.own 0 5, AV.d (.sl (List.map ivD s.cm))]) ∧ (True))))))))))))))))))))))) (False)) (h := {els := [(32, .el (ckD c)), (39, .el (ckD c)), (46, .el (ckD c))], H := [(9, [(5, .val (.bool true)), (12, .val (.bool true))])]}) (subs := []) (ws := []) (ρ := []) (by kernel_rfl) ?_
  have hj := get_lt hn
  have hi := inc_i64 (j := j) (by omega)
  have hln := mapTo_len (loseC e) s.fl j
  have hne : (mapTo (loseC e) s.fl j).map ckD ≠ [] := fun g => by
    have := congrArg List.length g
    rw [List.length_map, hln, List.length_nil] at this
    omega
  try simp only [hi]
  refine condP_t (by rw [decide_eq_true_eq]; omega) ?_
  try simp only [Int.toNat_natCast]
  repeat' (with_reducible first | exact True.intro | apply And.intro | (first | apply zA | apply zB | apply zC | apply zD | apply zE | apply zF | apply zG) <;> intro)
  all_goals first | exact hne | exact el_map hm rfl | exact hs | exact congrArg (Ob.row 5) hs | rfl | omega | (simp [hln]; omega) | (refine congrArg D.bool ?_; simp [h1]; done) | exact dyes (by omega) | exact dno (by omega) | skip

set_option maxRecDepth 100000 in
set_option maxHeartbeats 1000000 in
theorem q50 (s : Sq) (e : Int) (q : Bool) : Runs Try.prog 1 (loopN Try.prog 50 0) (St.as (I50 s e q s.fl.length) 49) (.exit 0) (St.as (I50 s e q s.fl.length) 49) := by
  refine round_wp (p := condP (decide ((↑s.fl.length : Int) < (↑s.fl.length : Int))) (((0 : Int) ≤ (↑s.fl.length : Int) ∧ (↑s.fl.length : Int) < (↑(List.map ckD (mapTo (loseC e) s.fl s.fl.length)).length : Int)) ∧ (False)) ((AV.ptr 1 0 = AV.ptr 1 0) ∧ ((AV.d (.int .i64 e) = AV.d (.int .i64 e)) ∧ ((AV.d (.bool q) = AV.d (.bool q)) ∧ ((AV.d (.int .i64 (↑s.fl.length : Int)) = AV.d (.int .i64 (↑s.fl.length : Int))) ∧ ((AV.d (.int .i64 (↑s.fl.length : Int)) = AV.d (.int .i64 (↑s.fl.length : Int))) ∧ ((Ob.row 5 (List.map ckD (mapTo (loseC e) s.fl s.fl.length)) = Ob.row 5 (List.map ckD (mapTo (loseC e) s.fl s.fl.length))) ∧ ((Ob.box [AV.d (.int .i64 s.b), AV.d (.str s.d), AV.d (.int .i64 s.n), AV.own 0 5, AV.d (.sl (List.map ivD s.cm))] = Ob.box [AV.d (.int .i64 s.b), AV.d (.str s.d), AV.d (.int .i64 s.n), AV.own 0 5, AV.d (.sl (List.map ivD s.cm))]) ∧ (True))))))))) (h := {}) (subs := []) (ws := []) (ρ := []) (by kernel_rfl) ?_
  repeat' (with_reducible first | exact True.intro | apply And.intro | (first | apply zA | apply zB | apply zC | apply zD | apply zE | apply zF | apply zG) <;> intro)
  all_goals first | rfl | omega

set_option maxRecDepth 100000 in
set_option maxHeartbeats 1000000 in
theorem lose50n (s : Sq) (h : s.cm.length = 0) : FnOK Try.prog 50 ([oAV s]) ([.row 5 (s.fl.map ckD)]) (.d (.bool false)) ([.row 5 (s.fl.map ckD)]) := by
  refine fnOK_wp (p := (D.bool ((↑(List.map ivD s.cm).length : Int) == (0 : Int)) = D.bool true) ∧ ((AV.d (.bool false) = AV.d (.bool false)) ∧ ((Ob.row 5 (List.map ckD s.fl) = Ob.row 5 (List.map ckD s.fl)) ∧ (True)))) (h := {H := [(1, [(3, .val (.bool true))])]}) (subs := []) (ws := []) (ρ := []) (by kernel_rfl) ?_
  simp only [List.length_map]
  repeat' (with_reducible first | exact True.intro | apply And.intro | (first | apply zA | apply zB | apply zC | apply zD | apply zE | apply zF | apply zG) <;> intro)
  all_goals first | rfl | (refine congrArg D.bool ?_; simp [h]; done) | skip

set_option maxRecDepth 100000 in
set_option maxHeartbeats 1000000 in
theorem lose50y (s : Sq) (hc : 0 < s.cm.length) (hc2 : s.cm.length < 1000000) (z : Iv) (q : Bool) (hw : IntKind.i64.wrap ((s.cm.length : Int) - 1) = (s.cm.length : Int) - 1) (hz : (s.cm.map ivD)[((s.cm.length : Int) - 1).toNat]? = some (ivD z)) (hL : Loops Try.prog 1 (loopN Try.prog 50 0) ((I50 s z.2 false 0).as 49) (.exit 0) ((I50 s z.2 q s.fl.length).as 49)) : FnOK Try.prog 50 ([oAV s]) ([.row 5 (s.fl.map ckD)]) (.d (.bool q)) ([.row 5 ((s.fl.map (loseC z.2)).map ckD)]) := by
  refine fnOK_wp (p := (D.bool ((↑(List.map ivD s.cm).length : Int) == (0 : Int)) = D.bool false) ∧ (((0 : Int) ≤ IntKind.i64.wrap ((↑(List.map ivD s.cm).length : Int) - (1 : Int))) ∧ (((List.map ivD s.cm)[(IntKind.i64.wrap ((↑(List.map ivD s.cm).length : Int) - (1 : Int))).toNat]? = some (D.agg [D.int .i64 z.fst, D.int .i64 z.snd])) ∧ ((AV.ptr 1008 0 = AV.ptr 1008 0) ∧ ((AV.d (.int .i64 z.snd) = AV.d (.int .i64 z.snd)) ∧ ((AV.d (.bool false) = AV.d (.bool false)) ∧ ((AV.d (.int .i64 (↑(List.map ckD s.fl).length : Int)) = AV.d (.int .i64 (↑s.fl.length : Int))) ∧ ((AV.d (.int .i64 (0 : Int)) = AV.d (.int .i64 (0 : Int))) ∧ ((Ob.row 5 (List.map ckD s.fl) = Ob.row 5 (List.map ckD (mapTo (loseC z.snd) s.fl 0))) ∧ ((Ob.box [AV.d (.int .i64 s.b), AV.d (.str s.d), AV.d (.int .i64 s.n), AV.own 0 5, AV.d (.sl (List.map ivD s.cm))] = Ob.box [AV.d (.int .i64 s.b), AV.d (.str s.d), AV.d (.int .i64 s.n), AV.own 0 5, AV.d (.sl (List.map ivD s.cm))]) ∧ ((LoopsS Try.prog 1 (loopN Try.prog 50 0) (I50 s z.snd false 0) (Exit.exit 0) (I50 s z.snd q s.fl.length) 49) ∧ ((AV.d (.bool q) = AV.d (.bool q)) ∧ ((Ob.row 5 (List.map ckD (mapTo (loseC z.snd) s.fl s.fl.length)) = Ob.row 5 (List.map ckD (List.map (loseC z.snd) s.fl))) ∧ (True)))))))))))))) (h := {els := [(12, .el (ivD z))], H := [(1, [(3, .val (.bool false))])]}) (subs := [⟨[], [], I50 s z.2 false 0, .exit 0, I50 s z.2 q s.fl.length⟩]) (ws := []) (ρ := []) (by kernel_rfl) ?_
  have h0 := mapTo_zero (loseC z.2) s.fl
  have h1 := mapTo_end (loseC z.2) s.fl
  simp only [List.length_map, hw]
  repeat' (with_reducible first | exact True.intro | apply And.intro | (first | apply zA | apply zB | apply zC | apply zD | apply zE | apply zF | apply zG) <;> intro)
  all_goals first | exact hL | exact hz | rfl | (rw [h0]; done) | (rw [h1]; done) | (rw [h0]; rfl) | (rw [h1]; rfl) | omega | (refine congrArg D.bool ?_; rw [beq_eq_false_iff_ne]; omega) | skip

theorem lose50 (s : Sq) (hf : s.fl.length < 1000000000) (hc : s.cm.length < 1000000) : FnOK Try.prog 50 [oAV s] [.row 5 (s.fl.map ckD)] (.d (.bool (rLose s).2)) [.row 5 ((rLose s).1.fl.map ckD)] := by
  unfold rLose
  by_cases h : s.cm = []
  · rw [h]
    have := lose50n s (by rw [h]; rfl)
    exact this
  · have hpos := List.length_pos_iff.2 h
    have hw : IntKind.i64.wrap ((s.cm.length : Int) - 1) = (s.cm.length : Int) - 1 := wrap_in (by omega) (by omega)
    obtain ⟨z, hz⟩ : ∃ z, s.cm.getLast? = some z := ⟨_, List.getLast?_eq_some_getLast h⟩
    rw [hz]
    have hz' : (s.cm.map ivD)[((s.cm.length : Int) - 1).toNat]? = some (ivD z) := by
      rw [List.getLast?_eq_getElem?] at hz
      rw [show ((s.cm.length : Int) - 1).toNat = s.cm.length - 1 by omega, List.getElem?_map, hz]; rfl
    have hL := loops_n (P := Try.prog) (k := 1) (c := loopN Try.prog 50 0) (e := .exit 0) (I := fun j => (I50 s z.2 ((s.fl.take j).any (farB z.2)) j).as 49) (by simp) s.fl.length 0 (by omega) (fun j _ hj => by
      have hn := get_of hj
      show Runs _ _ _ _ _ ((I50 s z.2 ((s.fl.take (j + 1)).any (farB z.2)) (j + 1)).as _)
      rw [any_snoc hn]
      have hm := mapTo_get (loseC z.2) hn
      have hs := mapTo_set (loseC z.2) hn
      by_cases g : farB z.2 s.fl[j] = true
      · rw [g, Bool.or_true]
        have hfc : loseC z.2 s.fl[j] = { s.fl[j] with l := true } := by unfold loseC; rw [if_pos g]
        unfold farB at g
        rw [Bool.and_eq_true, Bool.not_eq_true', decide_eq_true_eq] at g
        rw [hfc] at hs
        exact r50c s hf _ _ j _ hn hm g.1 g.2 (by rw [← List.map_set, hs])
      · have g' : farB z.2 s.fl[j] = false := by cases w : farB z.2 s.fl[j]; rfl; exact absurd w g
        have hfc : loseC z.2 s.fl[j] = s.fl[j] := by unfold loseC; rw [if_neg g]
        rw [g', Bool.or_false]
        have hk := mapTo_skip (loseC z.2) hn hfc
        cases hcl : s.fl[j].l
        · refine r50b s hf _ _ j _ hn hm hcl ?_ (by rw [hk])
          intro w
          exact g (by unfold farB; rw [hcl, decide_eq_true w]; rfl)
        · exact r50a s hf _ _ j _ hn hm hcl (by rw [hk])) (by simp only [List.take_length]; exact q50 s _ _)
    exact lose50y s hpos hc z _ hw hz' hL
end Go.Proofs.Ytfllhedkgeljaaa


/-
laws 11, plain: what came, behind an acknowledgement. No program.
-/
set_option linter.unusedSimpArgs false
set_option linter.unusedVariables false
namespace Go.Proofs.Ytfllhedkgeljaaa
open Sx Go.RowKit C06

/-! ### How many intervals there are -/
def spare (p : List Iv × Bool) : Nat := p.1.length + if p.2 then 0 else 1
theorem stA_spare (x : Iv) (p : List Iv × Bool) (y : Iv) : spare (stA x p y) ≤ spare p + 1 := by
  obtain ⟨m, q⟩ := p
  unfold stA spare
  have h1 := pPut_len m x
  have h2 := pPut_len (pPut m x) y
  have h3 := pPut_len m y
  cases q
  · by_cases g : x.1 ≤ y.1
    · rw [if_pos ⟨rfl, g⟩]
      simp only [Bool.false_eq_true, if_false, if_true]
      omega
    · rw [if_neg (fun h => g h.2)]
      simp only [Bool.false_eq_true, if_false]
      omega
  · rw [if_neg (fun h => by cases h.1)]
    simp only [if_true]
    omega
theorem fold_spare (x : Iv) : ∀ (s : List Iv) (p : List Iv × Bool), spare (s.foldl (stA x) p) ≤ spare p + s.length
  | [], p => Nat.le_refl _
  | y :: s, p => by
    have h1 := fold_spare x s (stA x p y)
    have h2 := stA_spare x p y
    rw [List.length_cons]
    show spare (s.foldl (stA x) (stA x p y)) ≤ _
    omega
theorem rAdd_len1 (s : List Iv) (x : Iv) : (rAdd s x).length ≤ s.length + 1 := by
  unfold rAdd
  split
  · omega
  · unfold pAdd
    have h := fold_spare x s ([], false)
    have e : spare ([], false) = 1 := rfl
    rw [e] at h
    unfold pAddF
    generalize s.foldl (stA x) ([], false) = p at *
    obtain ⟨m, q⟩ := p
    unfold spare at h
    have h3 := pPut_len m x
    cases q
    · rw [if_neg (by simp)]
      simp only [Bool.false_eq_true, if_false] at h
      show (pPut m x).length ≤ _
      omega
    · rw [if_pos rfl]
      simp only [if_true] at h
      show m.length ≤ _
      omega
theorem adds_len : ∀ (l s : List Iv), (l.foldl rAdd s).length ≤ s.length + l.length
  | [], s => Nat.le_refl _
  | x :: l, s => by
    have h1 := adds_len l (rAdd s x)
    have h2 := rAdd_len1 s x
    rw [List.length_cons]
    show (l.foldl rAdd (rAdd s x)).length ≤ _
    omega
/-! ### What came in all -/
theorem adds_ok : ∀ {l s : List Iv}, Ok s → (∀ x ∈ l, mayB x = true) → Ok (l.foldl rAdd s) ∧ ∀ n, has (l.foldl rAdd s) n = (has s n || has l n)
  | [], s, h, _ => ⟨h, fun n => by show has s n = (has s n || false); rw [Bool.or_false]⟩
  | x :: l, s, h, hl => by
    obtain ⟨a1, a2⟩ := add_has h (hl x (by simp))
    obtain ⟨b1, b2⟩ := adds_ok a1 fun y hy => hl y (List.mem_cons_of_mem _ hy)
    refine ⟨b1, fun n => ?_⟩
    show has (l.foldl rAdd (rAdd s x)) n = _
    rw [b2, a2, has_cons, Bool.or_assoc]
    rfl
def ackAll (s : Sq) (u : Int) (l : List Iv) : List Iv := l.foldl rAdd (rAdd s.cm (s.b, u))
theorem ackAll_len (s : Sq) (u : Int) (l : List Iv) : (ackAll s u l).length ≤ s.cm.length + 1 + l.length := by
  have h1 := adds_len l (rAdd s.cm (s.b, u))
  have h2 := rAdd_len1 s.cm (s.b, u)
  unfold ackAll
  omega
theorem cameB_ok {s : Sq} (h : cameB s = true) : Ok s.cm ∧ ∀ x ∈ s.cm, s.b < x.1 ∧ x.2 ≤ s.n := by
  unfold cameB at h
  rw [Bool.and_eq_true, decide_eq_true_eq, List.all_eq_true] at h
  refine ⟨iChk_iff.1 h.1, fun x hx => ?_⟩
  obtain ⟨a, b⟩ := camB_t (h.2 x hx)
  omega
theorem mayQ_ok {s : Sq} {u : Int} {l : List Iv} (h : mayQ s u l = true) : sChk s = 0 ∧ (s.b ≤ u ∧ u ≤ s.n) ∧ Ok l ∧ ∀ x ∈ l, u ≤ x.1 ∧ x.2 ≤ s.n := by
  unfold mayQ at h
  rw [Bool.and_eq_true, decide_eq_true_eq, Bool.not_eq_true', List.any_eq_false] at h
  obtain ⟨⟨h1, h2, h3, h4⟩, h5⟩ := h
  refine ⟨h1, ⟨h2, h3⟩, iChk_iff.1 h4, fun x hx => ?_⟩
  have := h5 x hx
  unfold outB at this
  simp only [Bool.or_eq_true, decide_eq_true_eq, not_or] at this
  omega
theorem has_range {l : List Iv} {a b : Int} (h : ∀ x ∈ l, a ≤ x.1 ∧ x.2 ≤ b) {m : Int} (hm : has l m = true) : a ≤ m ∧ m < b := by
  obtain ⟨x, hx, h1, h2⟩ := has_iff.1 hm
  have := h x hx
  omega
structure AllOk (s : Sq) (u : Int) (l all : List Iv) : Prop where
  b0 : 0 ≤ s.b
  bu : s.b ≤ u
  un : u ≤ s.n
  nd : s.n ≤ s.b + s.d.length
  nb : s.n ≤ 1099511628000
  ok : Ok all
  has : ∀ m, has all m = (has s.cm m || (inV (s.b, u) m || has l m))
  rng : ∀ m, C06.has all m = true → s.b ≤ m ∧ m < s.n
theorem all_ok {s : Sq} (hn : s.n < 9223372036854775808) {u : Int} {l : List Iv} (h : mayQ s u l = true) : AllOk s u l (ackAll s u l) := by
  obtain ⟨h1, ⟨h2, h3⟩, h4, h5⟩ := mayQ_ok h
  obtain ⟨⟨c1, c2, c3, c4⟩, c5, c6, c7⟩ := sChk_ok hn h1
  unfold lastP at c2
  obtain ⟨d1, d2⟩ := cameB_ok c6
  have hm : mayB (s.b, u) = true := mayB_iff.2 ⟨⟨c1, by show s.b ≤ _; omega⟩, by show 0 ≤ u; omega, by show u ≤ _; omega⟩
  obtain ⟨a1, a2⟩ := add_has d1 hm
  obtain ⟨b1, b2⟩ := adds_ok (l := l) a1 fun x hx => (ok_may h4 hx).1
  have hh : ∀ m, C06.has (ackAll s u l) m = (C06.has s.cm m || (inV (s.b, u) m || C06.has l m)) := fun m => by
    unfold ackAll
    rw [b2, a2, Bool.or_assoc]
  refine ⟨c1, h2, h3, by omega, by omega, b1, hh, fun m g => ?_⟩
  rw [hh] at g
  rcases Bool.or_eq_true_iff.1 g with g | g
  · have := has_range (a := s.b) (b := s.n) (fun x hx => ⟨by have := d2 x hx; omega, (d2 x hx).2⟩) g
    exact this
  · rcases Bool.or_eq_true_iff.1 g with g | g
    · have : s.b ≤ m ∧ m < u := of_decide_eq_true g
      omega
    · have := has_range h5 g
      omega
theorem all_end {s : Sq} {u : Int} {l all : List Iv} (h : AllOk s u l all) : ∀ x ∈ all, s.b ≤ x.1 ∧ x.2 ≤ s.n := fun x hx => by
  have h1 := srt_mem h.ok.srt x hx
  have h2 := h.rng x.1 (has_iff.2 ⟨x, hx, by omega, by omega⟩)
  have h3 := h.rng (x.2 - 1) (has_iff.2 ⟨x, hx, by omega, by omega⟩)
  omega
theorem first_in {s : Sq} {u : Int} {l all : List Iv} (h : AllOk s u l all) : u ≤ rFirst all u ∧ rFirst all u ≤ s.n ∧ has all (rFirst all u) = false ∧ ∀ m : Int, s.b ≤ m → m < rFirst all u → has all m = true := by
  have hu := h.bu
  have hb := h.b0
  have hun := h.un
  have e : rFirst all u = adv all u := by unfold rFirst adv; rw [show max u 0 = u by omega]
  have h1 := has_adv h.ok.srt u
  rw [e]
  have h2 : ∀ m : Int, s.b ≤ m → m < u → has all m = true := fun m m1 m2 => by
    rw [h.has, show inV (s.b, u) m = true from decide_eq_true (by show s.b ≤ m ∧ m < u; omega), Bool.true_or, Bool.or_true]
  unfold adv at h1 ⊢
  by_cases g : (fnd all u).2 = true
  · rw [if_pos g] at h1 ⊢
    obtain ⟨m1, m2, m3⟩ := fnd_mem g
    have m4 := all_end h _ m1
    refine ⟨by omega, m4.2, h1, fun m k1 k2 => ?_⟩
    by_cases k3 : m < u
    · exact h2 m k1 k3
    · exact has_iff.2 ⟨_, m1, by omega, k2⟩
  · rw [if_neg g] at h1 ⊢
    exact ⟨by omega, hun, h1, h2⟩
end Go.Proofs.Ytfllhedkgeljaaa


/-
laws 11: an acknowledgement taken: the program's.
-/
set_option linter.unusedSimpArgs false
set_option linter.unusedVariables false
namespace Go.Proofs.Ytfllhedkgeljaaa
open Sx Go.RowKit C06

structure Rp where
  a : Int
  s : Int
  l : Bool
  deriving DecidableEq
def rpD (r : Rp) : D := .agg [.int .i64 r.a, .int .i64 r.s, .bool r.l]
def smpl (now : Int) (c : Ck) : Int := if c.r = 1 ∧ now ≥ c.s then IntKind.i64.wrap (now - c.s) else -1
def ackS (all : List Iv) (now : Int) (p : List Ck × Int) (c : Ck) : List Ck × Int := (p.1 ++ lft c all, if someB c all = true then smpl now c else p.2)
def ackF (s : Sq) (all : List Iv) (now : Int) : List Ck × Int := s.fl.foldl (ackS all now) ([], -1)
def acO (s : Sq) (u : Int) (all : List Iv) (now : Int) : Sq := ⟨rFirst all u, s.d.drop (rFirst all u - s.b).toNat, s.n, (ackF s all now).1, rCut all (0, rFirst all u)⟩
def rAck (s : Sq) (u : Int) (l : List Iv) (now : Int) : Sq × Rp :=
  if mayQ s u l = false then (s, ⟨0, -1, false⟩)
  else ((rLose (acO s u (ackAll s u l) now)).1, ⟨IntKind.i64.wrap (rCount (ackAll s u l) - rCount s.cm), (ackF s (ackAll s u l) now).2, (rLose (acO s u (ackAll s u l) now)).2⟩)
def rpB (a s : Int) (q : Bool) : Ob := .box [.d (.int .i64 a), .d (.int .i64 s), .d (.bool q)]
/-! ### All that came -/
def I20 (s : Sq) (u now : Int) (l all : List Iv) (j : Nat) : St := ⟨[(1, .d (.int .i64 u)), (3, .d (.int .i64 now)), (4, .ptr 0 0), (8, .ptr 1 0), (9, .ptr 2 0), (10, .ptr 3 0), (11, .d (.sl (all.map ivD))), (35, .d (.sl (l.map ivD))), (36, .d (.int .i64 l.length)), (37, .d (.int .i64 j))], [(0, sqB s), (1, sqZ), (2, rpB 0 0 false), (3, rpB 0 (-1) false)]⟩
set_option maxRecDepth 100000 in
set_option maxHeartbeats 1000000 in
theorem r20 (s : Sq) (u now : Int) (l all all' : List Iv) (hl : l.length < 1000000) (j : Nat) (x : Iv) (hn : l[j]? = some x) (k1 : FnOK Try.prog 32 [.d (.sl (all.map ivD)), .d (ivD x)] [] (.d (.sl (all'.map ivD))) []) : Runs Try.prog 0 (loopN Try.prog 20 0) (St.as (I20 s u now l all j) 115) (.normal) (St.as (I20 s u now l all' (j+1)) 115) := by
  refine round_wp (p := condP (decide ((↑j : Int) < (↑l.length : Int))) (((0 : Int) ≤ (↑j : Int)) ∧ (((List.map ivD l)[(↑j : Int).toNat]? = some (D.agg [D.int .i64 x.fst, D.int .i64 x.snd])) ∧ ((FnOK Try.prog 32 [AV.d (.sl (List.map ivD all)), AV.d (.agg [D.int .i64 x.fst, D.int .i64 x.snd])] [] (AV.d (.sl (List.map ivD all'))) []) ∧ ((AV.d (.int .i64 u) = AV.d (.int .i64 u)) ∧ ((AV.d (.int .i64 now) = AV.d (.int .i64 now)) ∧ ((AV.ptr 0 0 = AV.ptr 0 0) ∧ ((AV.ptr 1 0 = AV.ptr 1 0) ∧ ((AV.ptr 2 0 = AV.ptr 2 0) ∧ ((AV.ptr 3 0 = AV.ptr 3 0) ∧ ((AV.d (.sl (List.map ivD all')) = AV.d (.sl (List.map ivD all'))) ∧ ((AV.d (.sl (List.map ivD l)) = AV.d (.sl (List.map ivD l))) ∧ ((AV.d (.int .i64 (↑l.length : Int)) = AV.d (.int .i64 (↑l.length : Int))) ∧ ((AV.d (.int .i64 (IntKind.i64.wrap ((↑j : Int) + (1 : Int)))) = AV.d (.int .i64 (↑(j + 1) : Int))) ∧ ((Ob.box [AV.d (.int .i64 s.b), AV.d (.str s.d), AV.d (.int .i64 s.n), AV.d (.sl (List.map ckD s.fl)), AV.d (.sl (List.map ivD s.cm))] = Ob.box [AV.d (.int .i64 s.b), AV.d (.str s.d), AV.d (.int .i64 s.n), AV.d (.sl (List.map ckD s.fl)), AV.d (.sl (List.map ivD s.cm))]) ∧ ((Ob.box [AV.d (.int .i64 (0 : Int)), AV.d (.str []), AV.d (.int .i64 (0 : Int)), AV.raw (Value.slice none 0 0), AV.raw (Value.slice none 0 0)] = Ob.box [AV.d (.int .i64 (0 : Int)), AV.d (.str []), AV.d (.int .i64 (0 : Int)), AV.raw (Value.slice none 0 0), AV.raw (Value.slice none 0 0)]) ∧ ((Ob.box [AV.d (.int .i64 (0 : Int)), AV.d (.int .i64 (0 : Int)), AV.d (.bool false)] = Ob.box [AV.d (.int .i64 (0 : Int)), AV.d (.int .i64 (0 : Int)), AV.d (.bool false)]) ∧ ((Ob.box [AV.d (.int .i64 (0 : Int)), AV.d (.int .i64 (-1 : Int)), AV.d (.bool false)] = Ob.box [AV.d (.int .i64 (0 : Int)), AV.d (.int .i64 (-1 : Int)), AV.d (.bool false)]) ∧ (True)))))))))))))))))) (False)) (h := {els := [(35, .el (ivD x))], H := [(8, [(2, .call [] (.d (.sl (all'.map ivD))) [])])]}) (subs := []) (ws := []) (ρ := []) (by kernel_rfl) ?_
  have hj := get_lt hn
  have hi := inc_i64 (j := j) (by omega)
  try simp only [hi]
  refine condP_t (by rw [decide_eq_true_eq]; omega) ?_
  repeat' (with_reducible first | exact True.intro | apply And.intro | (first | apply zA | apply zB | apply zC | apply zD | apply zE | apply zF | apply zG) <;> intro)
  all_goals first | exact k1 | exact el_map hn rfl | rfl | omega | skip

set_option maxRecDepth 100000 in
set_option maxHeartbeats 1000000 in
theorem q20 (s : Sq) (u now : Int) (l all : List Iv) : Runs Try.prog 0 (loopN Try.prog 20 0) (St.as (I20 s u now l all l.length) 115) (.exit 0) (St.as (I20 s u now l all l.length) 115) := by
  refine round_wp (p := condP (decide ((↑l.length : Int) < (↑l.length : Int))) (False) ((AV.d (.int .i64 u) = AV.d (.int .i64 u)) ∧ ((AV.d (.int .i64 now) = AV.d (.int .i64 now)) ∧ ((AV.ptr 0 0 = AV.ptr 0 0) ∧ ((AV.ptr 1 0 = AV.ptr 1 0) ∧ ((AV.ptr 2 0 = AV.ptr 2 0) ∧ ((AV.ptr 3 0 = AV.ptr 3 0) ∧ ((AV.d (.sl (List.map ivD all)) = AV.d (.sl (List.map ivD all))) ∧ ((AV.d (.sl (List.map ivD l)) = AV.d (.sl (List.map ivD l))) ∧ ((AV.d (.int .i64 (↑l.length : Int)) = AV.d (.int .i64 (↑l.length : Int))) ∧ ((AV.d (.int .i64 (↑l.length : Int)) = AV.d (.int .i64 (↑l.length : Int))) ∧ ((Ob.box [AV.d (.int .i64 s.b), AV.d (.str s.d), AV.d (.int .i64 s.n), AV.d (.sl (List.map ckD s.fl)), AV.d (.sl (List.map ivD s.cm))] = Ob.box [AV.d (.int .i64 s.b), AV.d (.str s.d), AV.d (.int .i64 s.n), AV.d (.sl (List.map ckD s.fl)), AV.d (.sl (List.map ivD s.cm))]) ∧ ((Ob.box [AV.d (.int .i64 (0 : Int)), AV.d (.str []), AV.d (.int .i64 (0 : Int)), AV.raw (Value.slice none 0 0), AV.raw (Value.slice none 0 0)] = Ob.box [AV.d (.int .i64 (0 : Int)), AV.d (.str []), AV.d (.int .i64 (0 : Int)), AV.raw (Value.slice none 0 0), AV.raw (Value.slice none 0 0)]) ∧ ((Ob.box [AV.d (.int .i64 (0 : Int)), AV.d (.int .i64 (0 : Int)), AV.d (.bool false)] = Ob.box [AV.d (.int .i64 (0 : Int)), AV.d (.int .i64 (0 : Int)), AV.d (.bool false)]) ∧ ((Ob.box [AV.d (.int .i64 (0 : Int)), AV.d (.int .i64 (-1 : Int)), AV.d (.bool false)] = Ob.box [AV.d (.int .i64 (0 : Int)), AV.d (.int .i64 (-1 : Int)), AV.d (.bool false)]) ∧ (True)))))))))))))))) (h := {}) (subs := []) (ws := []) (ρ := []) (by kernel_rfl) ?_
  repeat' (with_reducible first | exact True.intro | apply And.intro | (first | apply zA | apply zB | apply zC | apply zD | apply zE | apply zF | apply zG) <;> intro)
  all_goals first | rfl | omega

/-! ### What is left of all chunks -/
def J20 (s : Sq) (u now : Int) (all : List Iv) (a v : Int) (m : List Ck) (j : Nat) : St := ⟨[(1, .d (.int .i64 u)), (3, .d (.int .i64 now)), (4, .ptr 0 0), (8, .ptr 1 0), (9, .ptr 2 0), (10, .ptr 3 0), (11, .d (.sl (all.map ivD))), (14, .ptr 4 0), (56, .d (.sl (s.fl.map ckD))), (57, .d (.int .i64 s.fl.length)), (58, .d (.int .i64 j))], [(0, sqB s), (1, sqZ), (2, rpB 0 0 false), (3, rpB a v false), (4, .box [.d (.int .i64 0), .d (.str []), .d (.int .i64 s.n), .own 5 5, .raw (.slice none 0 0)]), (5, .row 5 (m.map ckD))]⟩
set_option maxRecDepth 100000 in
set_option maxHeartbeats 1000000 in
theorem s20a (s : Sq) (u now : Int) (all : List Iv) (a v : Int) (m t : List Ck) (hf : s.fl.length < 1000000) (hm : m.length + t.length < 1000000000) (j : Nat) (c : Ck) (hn : s.fl[j]? = some c) (q : Bool) (k1 : FnOK Try.prog 47 [.d (ckD c), .d (.sl (all.map ivD))] [] (.tup [.d (.sl (t.map ckD)), .d (.bool q)]) []) (hq : q = false) (h1 : True) : Runs Try.prog 0 (loopN Try.prog 20 1) (St.as (J20 s u now all a v m j) 115) (.normal) (St.as (J20 s u now all a v (m ++ t) (j+1)) 115) := by
  refine round_wp (p := condP (decide ((↑j : Int) < (↑s.fl.length : Int))) (((0 : Int) ≤ (↑j : Int)) ∧ (((List.map ckD s.fl)[(↑j : Int).toNat]? = some (D.agg [D.int .i64 c.f, D.int .i64 c.t, D.int .i64 c.s, D.int .i64 c.r, D.bool c.l])) ∧ ((FnOK Try.prog 47 [AV.d (.agg [D.int .i64 c.f, D.int .i64 c.t, D.int .i64 c.s, D.int .i64 c.r, D.bool c.l]), AV.d (.sl (List.map ivD all))] [] (AV.tup [AV.d (.sl (List.map ckD t)), AV.d (.bool q)]) []) ∧ ((((List.map ckD m).length + (List.map ckD t).length) * 40 ≤ 140737488355328) ∧ ((∀ (e : D), e ∈ List.map ckD t → e.cells.length = 5) ∧ (((D.bool !q) = D.bool true) ∧ ((AV.d (.int .i64 u) = AV.d (.int .i64 u)) ∧ ((AV.d (.int .i64 now) = AV.d (.int .i64 now)) ∧ ((AV.ptr 0 0 = AV.ptr 0 0) ∧ ((AV.ptr 1 0 = AV.ptr 1 0) ∧ ((AV.ptr 2 0 = AV.ptr 2 0) ∧ ((AV.ptr 3 0 = AV.ptr 3 0) ∧ ((AV.d (.sl (List.map ivD all)) = AV.d (.sl (List.map ivD all))) ∧ ((AV.ptr 4 0 = AV.ptr 4 0) ∧ ((AV.d (.sl (List.map ckD s.fl)) = AV.d (.sl (List.map ckD s.fl))) ∧ ((AV.d (.int .i64 (↑s.fl.length : Int)) = AV.d (.int .i64 (↑s.fl.length : Int))) ∧ ((AV.d (.int .i64 (IntKind.i64.wrap ((↑j : Int) + (1 : Int)))) = AV.d (.int .i64 (↑(j + 1) : Int))) ∧ ((Ob.box [AV.d (.int .i64 s.b), AV.d (.str s.d), AV.d (.int .i64 s.n), AV.d (.sl (List.map ckD s.fl)), AV.d (.sl (List.map ivD s.cm))] = Ob.box [AV.d (.int .i64 s.b), AV.d (.str s.d), AV.d (.int .i64 s.n), AV.d (.sl (List.map ckD s.fl)), AV.d (.sl (List.map ivD s.cm))]) ∧ ((Ob.box [AV.d (.int .i64 (0 : Int)), AV.d (.str []), AV.d (.int .i64 (0 : Int)), AV.raw (Value.slice none 0 0), AV.raw (Value.slice none 0 0)] = Ob.box [AV.d (.int .i64 (0 : Int)), AV.d (.str []), AV.d (.int .i64 (0 : Int)), AV.raw (Value.slice none 0 0), AV.raw (Value.slice none 0 0)]) ∧ ((Ob.box [AV.d (.int .i64 (0 : Int)), AV.d (.int .i64 (0 : Int)), AV.d (.bool false)] = Ob.box [AV.d (.int .i64 (0 : Int)), AV.d (.int .i64 (0 : Int)), AV.d (.bool false)]) ∧ ((Ob.box [AV.d (.int .i64 a), AV.d (.int .i64 v), AV.d (.bool false)] = Ob.box [AV.d (.int .i64 a), AV.d (.int .i64 v), AV.d (.bool false)]) ∧ ((Ob.box [AV.d (.int .i64 (0 : Int)), AV.d (.str []), AV.d (.int .i64 s.n), AV.own 1568 5, AV.raw (Value.slice none 0 0)] = Ob.box [AV.d (.int .i64 (0 : Int)), AV.d (.str []), AV.d (.int .i64 s.n), AV.own 1568 5, AV.raw (Value.slice none 0 0)]) ∧ ((Ob.row 5 (List.map ckD m ++ List.map ckD t) = Ob.row 5 (List.map ckD (m ++ t))) ∧ (True)))))))))))))))))))))))) (False)) (h := {els := [(56, .el (ckD c))], H := [(15, [(2, .call [] (.tup [.d (.sl (t.map ckD)), .d (.bool q)]) [])]), (17, [(1, .val (.bool true))])]}) (subs := []) (ws := []) (ρ := []) (by kernel_rfl) ?_
  have hj := get_lt hn
  have hi := inc_i64 (j := j) (by omega)
  have hcm : (m ++ t).map ckD = m.map ckD ++ t.map ckD := List.map_append ..
  try simp only [hi]
  refine condP_t (by rw [decide_eq_true_eq]; omega) ?_
  repeat' (with_reducible first | exact True.intro | apply And.intro | (first | apply zA | apply zB | apply zC | apply zD | apply zE | apply zF | apply zG) <;> intro)
  all_goals first | exact k1 | exact el_map hn rfl | exact congrArg (Ob.row 5) hcm.symm | exact ckD_sz _ | rfl | omega | (simp; omega) | exact dyes (by omega) | exact dno (by omega) | (refine congrArg D.bool ?_; simp [hq]; done) | (refine congrArg D.bool ?_; simp [h1]; done) | skip

set_option maxRecDepth 100000 in
set_option maxHeartbeats 1000000 in
theorem s20b (s : Sq) (u now : Int) (all : List Iv) (a v : Int) (m t : List Ck) (hf : s.fl.length < 1000000) (hm : m.length + t.length < 1000000000) (j : Nat) (c : Ck) (hn : s.fl[j]? = some c) (q : Bool) (k1 : FnOK Try.prog 47 [.d (ckD c), .d (.sl (all.map ivD))] [] (.tup [.d (.sl (t.map ckD)), .d (.bool q)]) []) (hq : q = true) (h1 : c.r = 1) (h2 : now ≥ c.s) : Runs Try.prog 0 (loopN Try.prog 20 1) (St.as (J20 s u now all a v m j) 115) (.normal) (St.as (J20 s u now all a (IntKind.i64.wrap (now - c.s)) (m ++ t) (j+1)) 115) := by
  refine round_wp (p := condP (decide ((↑j : Int) < (↑s.fl.length : Int))) (((0 : Int) ≤ (↑j : Int)) ∧ (((List.map ckD s.fl)[(↑j : Int).toNat]? = some (D.agg [D.int .i64 c.f, D.int .i64 c.t, D.int .i64 c.s, D.int .i64 c.r, D.bool c.l])) ∧ ((FnOK Try.prog 47 [AV.d (.agg [D.int .i64 c.f, D.int .i64 c.t, D.int .i64 c.s, D.int .i64 c.r, D.bool c.l]), AV.d (.sl (List.map ivD all))] [] (AV.tup [AV.d (.sl (List.map ckD t)), AV.d (.bool q)]) []) ∧ ((((List.map ckD m).length + (List.map ckD t).length) * 40 ≤ 140737488355328) ∧ ((∀ (e : D), e ∈ List.map ckD t → e.cells.length = 5) ∧ (((D.bool !q) = D.bool false) ∧ ((D.bool (c.r == (1 : Int)) = D.bool true) ∧ ((D.bool (decide (now ≥ c.s)) = D.bool true) ∧ ((AV.d (.int .i64 u) = AV.d (.int .i64 u)) ∧ ((AV.d (.int .i64 now) = AV.d (.int .i64 now)) ∧ ((AV.ptr 0 0 = AV.ptr 0 0) ∧ ((AV.ptr 1 0 = AV.ptr 1 0) ∧ ((AV.ptr 2 0 = AV.ptr 2 0) ∧ ((AV.ptr 3 0 = AV.ptr 3 0) ∧ ((AV.d (.sl (List.map ivD all)) = AV.d (.sl (List.map ivD all))) ∧ ((AV.ptr 4 0 = AV.ptr 4 0) ∧ ((AV.d (.sl (List.map ckD s.fl)) = AV.d (.sl (List.map ckD s.fl))) ∧ ((AV.d (.int .i64 (↑s.fl.length : Int)) = AV.d (.int .i64 (↑s.fl.length : Int))) ∧ ((AV.d (.int .i64 (IntKind.i64.wrap ((↑j : Int) + (1 : Int)))) = AV.d (.int .i64 (↑(j + 1) : Int))) ∧ ((Ob.box [AV.d (.int .i64 s.b), AV.d (.str s.d), AV.d (.int .i64 s.n), AV.d (.sl (List.map ckD s.fl)), AV.d (.sl (List.map ivD s.cm))] = Ob.box [AV.d (.int .i64 s.b), AV.d (.str s.d), AV.d (.int .i64 s.n), AV.d (.sl (List.map ckD s.fl)), AV.d (.sl (List.map ivD s.cm))]) ∧ ((Ob.box [AV.d (.int .i64 (0 : Int)), AV.d (.str []), AV.d (.int .i64 (0 : Int)), AV.raw (Value.slice none 0 0), AV.raw (Value.slice none 0 0)] = Ob.box [AV.d (.int .i64 (0 : Int)), AV.d (.str []), AV.d (.int .i64 (0 : Int)), AV.raw (Value.slice none 0 0), AV.raw (Value.slice none 0 0)]) ∧ ((Ob.box [AV.d (.int .i64 (0 : Int)), AV.d (.int .i64 (0 : Int)), AV.d (.bool false)] = Ob.box [AV.d (.int .i64 (0 : Int)), AV.d (.int .i64 (0 : Int)), AV.d (.bool false)]) ∧ ((Ob.box [AV.d (.int .i64 a), AV.d (.int .i64 (IntKind.i64.wrap (now - c.s))), AV.d (.bool false)] = Ob.box [AV.d (.int .i64 a), AV.d (.int .i64 (IntKind.i64.wrap (now - c.s))), AV.d (.bool false)]) ∧ ((Ob.box [AV.d (.int .i64 (0 : Int)), AV.d (.str []), AV.d (.int .i64 s.n), AV.own 1568 5, AV.raw (Value.slice none 0 0)] = Ob.box [AV.d (.int .i64 (0 : Int)), AV.d (.str []), AV.d (.int .i64 s.n), AV.own 1568 5, AV.raw (Value.slice none 0 0)]) ∧ ((Ob.row 5 (List.map ckD m ++ List.map ckD t) = Ob.row 5 (List.map ckD (m ++ t))) ∧ (True)))))))))))))))))))))))))) (False)) (h := {els := [(56, .el (ckD c))], H := [(15, [(2, .call [] (.tup [.d (.sl (t.map ckD)), .d (.bool q)]) [])]), (17, [(1, .val (.bool false))]), (19, [(3, .val (.bool true)), (8, .val (.bool true))])]}) (subs := []) (ws := []) (ρ := []) (by kernel_rfl) ?_
  have hj := get_lt hn
  have hi := inc_i64 (j := j) (by omega)
  have hcm : (m ++ t).map ckD = m.map ckD ++ t.map ckD := List.map_append ..
  try simp only [hi]
  refine condP_t (by rw [decide_eq_true_eq]; omega) ?_
  repeat' (with_reducible first | exact True.intro | apply And.intro | (first | apply zA | apply zB | apply zC | apply zD | apply zE | apply zF | apply zG) <;> intro)
  all_goals first | exact k1 | exact el_map hn rfl | exact congrArg (Ob.row 5) hcm.symm | exact ckD_sz _ | rfl | omega | (simp; omega) | exact dyes (by omega) | exact dno (by omega) | (refine congrArg D.bool ?_; simp [hq]; done) | (refine congrArg D.bool ?_; simp [h1]; done) | skip

set_option maxRecDepth 100000 in
set_option maxHeartbeats 1000000 in
theorem s20c (s : Sq) (u now : Int) (all : List Iv) (a v : Int) (m t : List Ck) (hf : s.fl.length < 1000000) (hm : m.length + t.length < 1000000000) (j : Nat) (c : Ck) (hn : s.fl[j]? = some c) (q : Bool) (k1 : FnOK Try.prog 47 [.d (ckD c), .d (.sl (all.map ivD))] [] (.tup [.d (.sl (t.map ckD)), .d (.bool q)]) []) (hq : q = true) (h1 : c.r = 1) (h2 : ¬now ≥ c.s) : Runs Try.prog 0 (loopN Try.prog 20 1) (St.as (J20 s u now all a v m j) 115) (.normal) (St.as (J20 s u now all a (-1) (m ++ t) (j+1)) 115) := by
  refine round_wp (p := condP (decide ((↑j : Int) < (↑s.fl.length : Int))) (((0 : Int) ≤ (↑j : Int)) ∧ (((List.map ckD s.fl)[(↑j : Int).toNat]? = some (D.agg [D.int .i64 c.f, D.int .i64 c.t, D.int .i64 c.s, D.int .i64 c.r, D.bool c.l])) ∧ ((FnOK Try.prog 47 [AV.d (.agg [D.int .i64 c.f, D.int .i64 c.t, D.int .i64 c.s, D.int .i64 c.r, D.bool c.l]), AV.d (.sl (List.map ivD all))] [] (AV.tup [AV.d (.sl (List.map ckD t)), AV.d (.bool q)]) []) ∧ ((((List.map ckD m).length + (List.map ckD t).length) * 40 ≤ 140737488355328) ∧ ((∀ (e : D), e ∈ List.map ckD t → e.cells.length = 5) ∧ (((D.bool !q) = D.bool false) ∧ ((D.bool (c.r == (1 : Int)) = D.bool true) ∧ ((D.bool (decide (now ≥ c.s)) = D.bool false) ∧ ((AV.d (.int .i64 u) = AV.d (.int .i64 u)) ∧ ((AV.d (.int .i64 now) = AV.d (.int .i64 now)) ∧ ((AV.ptr 0 0 = AV.ptr 0 0) ∧ ((AV.ptr 1 0 = AV.ptr 1 0) ∧ ((AV.ptr 2 0 = AV.ptr 2 0) ∧ ((AV.ptr 3 0 = AV.ptr 3 0) ∧ ((AV.d (.sl (List.map ivD all)) = AV.d (.sl (List.map ivD all))) ∧ ((AV.ptr 4 0 = AV.ptr 4 0) ∧ ((AV.d (.sl (List.map ckD s.fl)) = AV.d (.sl (List.map ckD s.fl))) ∧ ((AV.d (.int .i64 (↑s.fl.length : Int)) = AV.d (.int .i64 (↑s.fl.length : Int))) ∧ ((AV.d (.int .i64 (IntKind.i64.wrap ((↑j : Int) + (1 : Int)))) = AV.d (.int .i64 (↑(j + 1) : Int))) ∧ ((Ob.box [AV.d (.int .i64 s.b), AV.d (.str s.d), AV.d (.int .i64 s.n), AV.d (.sl (List.map ckD s.fl)), AV.d (.sl (List.map ivD s.cm))] = Ob.box [AV.d (.int .i64 s.b), AV.d (.str s.d), AV.d (.int .i64 s.n), AV.d (.sl (List.map ckD s.fl)), AV.d (.sl (List.map ivD s.cm))]) ∧ ((Ob.box [AV.d (.int .i64 (0 : Int)), AV.d (.str []), AV.d (.int .i64 (0 : Int)), AV.raw (Value.slice none 0 0), AV.raw (Value.slice none 0 0)] = Ob.box [AV.d (.int .i64 (0 : Int)), AV.d (.str []), AV.d (.int .i64 (0 : Int)), AV.raw (Value.slice none 0 0), AV.raw (Value.slice none 0 0)]) ∧ ((Ob.box [AV.d (.int .i64 (0 : Int)), AV.d (.int .i64 (0 : Int)), AV.d (.bool false)] = Ob.box [AV.d (.int .i64 (0 : Int)), AV.d (.int .i64 (0 : Int)), AV.d (.bool false)]) ∧ ((Ob.box [AV.d (.int .i64 a), AV.d (.int .i64 (-1 : Int)), AV.d (.bool false)] = Ob.box [AV.d (.int .i64 a), AV.d (.int .i64 (-1 : Int)), AV.d (.bool false)]) ∧ ((Ob.box [AV.d (.int .i64 (0 : Int)), AV.d (.str []), AV.d (.int .i64 s.n), AV.own 1568 5, AV.raw (Value.slice none 0 0)] = Ob.box [AV.d (.int .i64 (0 : Int)), AV.d (.str []), AV.d (.int .i64 s.n), AV.own 1568 5, AV.raw (Value.slice none 0 0)]) ∧ ((Ob.row 5 (List.map ckD m ++ List.map ckD t) = Ob.row 5 (List.map ckD (m ++ t))) ∧ (True)))))))))))))))))))))))))) (False)) (h := {els := [(56, .el (ckD c))], H := [(15, [(2, .call [] (.tup [.d (.sl (t.map ckD)), .d (.bool q)]) [])]), (17, [(1, .val (.bool false))]), (19, [(3, .val (.bool true)), (8, .val (.bool false))])]}) (subs := []) (ws := []) (ρ := []) (by kernel_rfl) ?_
  have hj := get_lt hn
  have hi := inc_i64 (j := j) (by omega)
  have hcm : (m ++ t).map ckD = m.map ckD ++ t.map ckD := List.map_append ..
  try simp only [hi]
  refine condP_t (by rw [decide_eq_true_eq]; omega) ?_
  repeat' (with_reducible first | exact True.intro | apply And.intro | (first | apply zA | apply zB | apply zC | apply zD | apply zE | apply zF | apply zG) <;> intro)
  all_goals first | exact k1 | exact el_map hn rfl | exact congrArg (Ob.row 5) hcm.symm | exact ckD_sz _ | rfl | omega | (simp; omega) | exact dyes (by omega) | exact dno (by omega) | (refine congrArg D.bool ?_; simp [hq]; done) | (refine congrArg D.bool ?_; simp [h1]; done) | skip

set_option maxRecDepth 100000 in
set_option maxHeartbeats 1000000 in
theorem s20d (s : Sq) (u now : Int) (all : List Iv) (a v : Int) (m t : List Ck) (hf : s.fl.length < 1000000) (hm : m.length + t.length < 1000000000) (j : Nat) (c : Ck) (hn : s.fl[j]? = some c) (q : Bool) (k1 : FnOK Try.prog 47 [.d (ckD c), .d (.sl (all.map ivD))] [] (.tup [.d (.sl (t.map ckD)), .d (.bool q)]) []) (hq : q = true) (h1 : ¬c.r = 1) : Runs Try.prog 0 (loopN Try.prog 20 1) (St.as (J20 s u now all a v m j) 115) (.normal) (St.as (J20 s u now all a (-1) (m ++ t) (j+1)) 115) := by
  refine round_wp (p := condP (decide ((↑j : Int) < (↑s.fl.length : Int))) (((0 : Int) ≤ (↑j : Int)) ∧ (((List.map ckD s.fl)[(↑j : Int).toNat]? = some (D.agg [D.int .i64 c.f, D.int .i64 c.t, D.int .i64 c.s, D.int .i64 c.r, D.bool c.l])) ∧ ((FnOK Try.prog 47 [AV.d (.agg [D.int .i64 c.f, D.int .i64 c.t, D.int .i64 c.s, D.int .i64 c.r, D.bool c.l]), AV.d (.sl (List.map ivD all))] [] (AV.tup [AV.d (.sl (List.map ckD t)), AV.d (.bool q)]) []) ∧ ((((List.map ckD m).length + (List.map ckD t).length) * 40 ≤ 140737488355328) ∧ ((∀ (e : D), e ∈ List.map ckD t → e.cells.length = 5) ∧ (((D.bool !q) = D.bool false) ∧ ((D.bool (c.r == (1 : Int)) = D.bool false) ∧ ((AV.d (.int .i64 u) = AV.d (.int .i64 u)) ∧ ((AV.d (.int .i64 now) = AV.d (.int .i64 now)) ∧ ((AV.ptr 0 0 = AV.ptr 0 0) ∧ ((AV.ptr 1 0 = AV.ptr 1 0) ∧ ((AV.ptr 2 0 = AV.ptr 2 0) ∧ ((AV.ptr 3 0 = AV.ptr 3 0) ∧ ((AV.d (.sl (List.map ivD all)) = AV.d (.sl (List.map ivD all))) ∧ ((AV.ptr 4 0 = AV.ptr 4 0) ∧ ((AV.d (.sl (List.map ckD s.fl)) = AV.d (.sl (List.map ckD s.fl))) ∧ ((AV.d (.int .i64 (↑s.fl.length : Int)) = AV.d (.int .i64 (↑s.fl.length : Int))) ∧ ((AV.d (.int .i64 (IntKind.i64.wrap ((↑j : Int) + (1 : Int)))) = AV.d (.int .i64 (↑(j + 1) : Int))) ∧ ((Ob.box [AV.d (.int .i64 s.b), AV.d (.str s.d), AV.d (.int .i64 s.n), AV.d (.sl (List.map ckD s.fl)), AV.d (.sl (List.map ivD s.cm))] = Ob.box [AV.d (.int .i64 s.b), AV.d (.str s.d), AV.d (.int .i64 s.n), AV.d (.sl (List.map ckD s.fl)), AV.d (.sl (List.map ivD s.cm))]) ∧ ((Ob.box [AV.d (.int .i64 (0 : Int)), AV.d (.str []), AV.d (.int .i64 (0 : Int)), AV.raw (Value.slice none 0 0), AV.raw (Value.slice none 0 0)] = Ob.box [AV.d (.int .i64 (0 : Int)), AV.d (.str []), AV.d (.int .i64 (0 : Int)), AV.raw (Value.slice none 0 0), AV.raw (Value.slice none 0 0)]) ∧ ((Ob.box [AV.d (.int .i64 (0 : Int)), AV.d (.int .i64 (0 : Int)), AV.d (.bool false)] = Ob.box [AV.d (.int .i64 (0 : Int)), AV.d (.int .i64 (0 : Int)), AV.d (.bool false)]) ∧ ((Ob.box [AV.d (.int .i64 a), AV.d (.int .i64 (-1 : Int)), AV.d (.bool false)] = Ob.box [AV.d (.int .i64 a), AV.d (.int .i64 (-1 : Int)), AV.d (.bool false)]) ∧ ((Ob.box [AV.d (.int .i64 (0 : Int)), AV.d (.str []), AV.d (.int .i64 s.n), AV.own 1568 5, AV.raw (Value.slice none 0 0)] = Ob.box [AV.d (.int .i64 (0 : Int)), AV.d (.str []), AV.d (.int .i64 s.n), AV.own 1568 5, AV.raw (Value.slice none 0 0)]) ∧ ((Ob.row 5 (List.map ckD m ++ List.map ckD t) = Ob.row 5 (List.map ckD (m ++ t))) ∧ (True))))))))))))))))))))))))) (False)) (h := {els := [(56, .el (ckD c))], H := [(15, [(2, .call [] (.tup [.d (.sl (t.map ckD)), .d (.bool q)]) [])]), (17, [(1, .val (.bool false))]), (19, [(3, .val (.bool false))])]}) (subs := []) (ws := []) (ρ := []) (by kernel_rfl) ?_
  have hj := get_lt hn
  have hi := inc_i64 (j := j) (by omega)
  have hcm : (m ++ t).map ckD = m.map ckD ++ t.map ckD := List.map_append ..
  try simp only [hi]
  refine condP_t (by rw [decide_eq_true_eq]; omega) ?_
  repeat' (with_reducible first | exact True.intro | apply And.intro | (first | apply zA | apply zB | apply zC | apply zD | apply zE | apply zF | apply zG) <;> intro)
  all_goals first | exact k1 | exact el_map hn rfl | exact congrArg (Ob.row 5) hcm.symm | exact ckD_sz _ | rfl | omega | (simp; omega) | exact dyes (by omega) | exact dno (by omega) | (refine congrArg D.bool ?_; simp [hq]; done) | (refine congrArg D.bool ?_; simp [h1]; done) | skip

set_option maxRecDepth 100000 in
set_option maxHeartbeats 1000000 in
theorem t20 (s : Sq) (u now : Int) (all : List Iv) (a v : Int) (m : List Ck) : Runs Try.prog 0 (loopN Try.prog 20 1) (St.as (J20 s u now all a v m s.fl.length) 115) (.exit 2) (St.as (J20 s u now all a v m s.fl.length) 115) := by
  refine round_wp (p := condP (decide ((↑s.fl.length : Int) < (↑s.fl.length : Int))) (False) ((AV.d (.int .i64 u) = AV.d (.int .i64 u)) ∧ ((AV.d (.int .i64 now) = AV.d (.int .i64 now)) ∧ ((AV.ptr 0 0 = AV.ptr 0 0) ∧ ((AV.ptr 1 0 = AV.ptr 1 0) ∧ ((AV.ptr 2 0 = AV.ptr 2 0) ∧ ((AV.ptr 3 0 = AV.ptr 3 0) ∧ ((AV.d (.sl (List.map ivD all)) = AV.d (.sl (List.map ivD all))) ∧ ((AV.ptr 4 0 = AV.ptr 4 0) ∧ ((AV.d (.sl (List.map ckD s.fl)) = AV.d (.sl (List.map ckD s.fl))) ∧ ((AV.d (.int .i64 (↑s.fl.length : Int)) = AV.d (.int .i64 (↑s.fl.length : Int))) ∧ ((AV.d (.int .i64 (↑s.fl.length : Int)) = AV.d (.int .i64 (↑s.fl.length : Int))) ∧ ((Ob.box [AV.d (.int .i64 s.b), AV.d (.str s.d), AV.d (.int .i64 s.n), AV.d (.sl (List.map ckD s.fl)), AV.d (.sl (List.map ivD s.cm))] = Ob.box [AV.d (.int .i64 s.b), AV.d (.str s.d), AV.d (.int .i64 s.n), AV.d (.sl (List.map ckD s.fl)), AV.d (.sl (List.map ivD s.cm))]) ∧ ((Ob.box [AV.d (.int .i64 (0 : Int)), AV.d (.str []), AV.d (.int .i64 (0 : Int)), AV.raw (Value.slice none 0 0), AV.raw (Value.slice none 0 0)] = Ob.box [AV.d (.int .i64 (0 : Int)), AV.d (.str []), AV.d (.int .i64 (0 : Int)), AV.raw (Value.slice none 0 0), AV.raw (Value.slice none 0 0)]) ∧ ((Ob.box [AV.d (.int .i64 (0 : Int)), AV.d (.int .i64 (0 : Int)), AV.d (.bool false)] = Ob.box [AV.d (.int .i64 (0 : Int)), AV.d (.int .i64 (0 : Int)), AV.d (.bool false)]) ∧ ((Ob.box [AV.d (.int .i64 a), AV.d (.int .i64 v), AV.d (.bool false)] = Ob.box [AV.d (.int .i64 a), AV.d (.int .i64 v), AV.d (.bool false)]) ∧ ((Ob.box [AV.d (.int .i64 (0 : Int)), AV.d (.str []), AV.d (.int .i64 s.n), AV.own 5 5, AV.raw (Value.slice none 0 0)] = Ob.box [AV.d (.int .i64 (0 : Int)), AV.d (.str []), AV.d (.int .i64 s.n), AV.own 5 5, AV.raw (Value.slice none 0 0)]) ∧ ((Ob.row 5 (List.map ckD m) = Ob.row 5 (List.map ckD m)) ∧ (True))))))))))))))))))) (h := {}) (subs := []) (ws := []) (ρ := []) (by kernel_rfl) ?_
  repeat' (with_reducible first | exact True.intro | apply And.intro | (first | apply zA | apply zB | apply zC | apply zD | apply zE | apply zF | apply zG) <;> intro)
  all_goals first | rfl | omega

theorem step20 (s : Sq) (u now : Int) (all : List Iv) (ha : all.length < 100000) (a : Int) (p : List Ck × Int) (hf : s.fl.length < 1000000) (j : Nat) (c : Ck) (hn : s.fl[j]? = some c) (hm : p.1.length + (lft c all).length < 1000000000) : Runs Try.prog 0 (loopN Try.prog 20 1) ((J20 s u now all a p.2 p.1 j).as 115) .normal ((J20 s u now all a (ackS all now p c).2 (ackS all now p c).1 (j+1)).as 115) := by
  have k1 := without47 c all ha
  unfold ackS
  cases hq : someB c all
  · rw [hq] at k1
    rw [if_neg (by simp)]
    exact s20a s u now all a p.2 p.1 (lft c all) hf hm j c hn _ k1 rfl trivial
  · rw [hq] at k1
    rw [if_pos rfl]
    unfold smpl
    by_cases h1 : c.r = 1
    · by_cases h2 : now ≥ c.s
      · rw [if_pos ⟨h1, h2⟩]
        exact s20b s u now all a p.2 p.1 (lft c all) hf hm j c hn _ k1 rfl h1 h2
      · rw [if_neg (fun g => h2 g.2)]
        exact s20c s u now all a p.2 p.1 (lft c all) hf hm j c hn _ k1 rfl h1 h2
    · rw [if_neg (fun g => h1 g.1)]
      exact s20d s u now all a p.2 p.1 (lft c all) hf hm j c hn _ k1 rfl h1
/-! ### All together -/
set_option maxRecDepth 100000 in
set_option maxHeartbeats 1000000 in
theorem ack20n (s : Sq) (u : Int) (l : List Iv) (now : Int) (k1 : FnOK Try.prog 45 [.d (sqD s), .d (.int .i64 u), .d (.sl (l.map ivD))] [] (.d (.bool false)) []) (k2 : FnOK Try.prog 33 [.d (sqD s)] [] (.d (sqD s)) []) : FnOK Try.prog 20 ([.d (sqD s), .d (.int .i64 u), .d (.sl (l.map ivD)), .d (.int .i64 now)]) ([]) (.tup [.d (sqD s), .d (rpD ⟨0, -1, false⟩)]) ([]) := by
  refine fnOK_wp (p := (FnOK Try.prog 45 [AV.d (.agg [D.int .i64 s.b, D.str s.d, D.int .i64 s.n, D.sl (List.map ckD s.fl), D.sl (List.map ivD s.cm)]), AV.d (.int .i64 u), AV.d (.sl (List.map ivD l))] [] (AV.d (.bool false)) []) ∧ ((FnOK Try.prog 33 [AV.d (.agg [D.int .i64 s.b, D.str s.d, D.int .i64 s.n, D.sl (List.map ckD s.fl), D.sl (List.map ivD s.cm)])] [] (AV.d (.agg [D.int .i64 s.b, D.str s.d, D.int .i64 s.n, D.sl (List.map ckD s.fl), D.sl (List.map ivD s.cm)])) []) ∧ ((AV.tup [AV.d (.agg [D.int .i64 s.b, D.str s.d, D.int .i64 s.n, D.sl (List.map ckD s.fl), D.sl (List.map ivD s.cm)]), AV.d (.agg [D.int .i64 (0 : Int), D.int .i64 (-1 : Int), D.bool false])] = AV.tup [AV.d (.agg [D.int .i64 s.b, D.str s.d, D.int .i64 s.n, D.sl (List.map ckD s.fl), D.sl (List.map ivD s.cm)]), AV.d (.agg [D.int .i64 (0 : Int), D.int .i64 (-1 : Int), D.bool false])]) ∧ (True)))) (h := {H := [(2, [(3, .call [] (.d (.bool false)) [])]), (3, [(1, .call [] (.d (sqD s)) [])])]}) (subs := []) (ws := []) (ρ := []) (by kernel_rfl) ?_
  repeat' (with_reducible first | exact True.intro | apply And.intro | (first | apply zA | apply zB | apply zC | apply zD | apply zE | apply zF | apply zG) <;> intro)
  all_goals first | exact k1 | exact k2 | rfl | skip

set_option maxRecDepth 100000 in
set_option maxHeartbeats 1000000 in
theorem ack20y (s : Sq) (u : Int) (l : List Iv) (now : Int) (all0 all cm : List Iv) (na nc b x v : Int) (m m' : List Ck) (q : Bool) (hd : s.d.length < 1000000) (k1 : FnOK Try.prog 45 [.d (sqD s), .d (.int .i64 u), .d (.sl (l.map ivD))] [] (.d (.bool true)) []) (k2 : FnOK Try.prog 32 [.d (.sl (s.cm.map ivD)), .d (ivD (s.b, u))] [] (.d (.sl (all0.map ivD))) []) (hA : Loops Try.prog 0 (loopN Try.prog 20 0) ((I20 s u now l all0 0).as 115) (.exit 0) ((I20 s u now l all l.length).as 115)) (k3 : FnOK Try.prog 46 [.d (.sl (all.map ivD))] [] (.d (.int .i64 na)) []) (k4 : FnOK Try.prog 46 [.d (.sl (s.cm.map ivD))] [] (.d (.int .i64 nc)) []) (hB : Loops Try.prog 0 (loopN Try.prog 20 1) ((J20 s u now all (IntKind.i64.wrap (na - nc)) (-1) [] 0).as 115) (.exit 2) ((J20 s u now all (IntKind.i64.wrap (na - nc)) v m s.fl.length).as 115)) (k5 : FnOK Try.prog 48 [.d (.sl (all.map ivD)), .d (.int .i64 u)] [] (.d (.int .i64 b)) []) (hx : IntKind.i64.wrap (b - s.b) = x) (hx0 : 0 ≤ x) (hx1 : x ≤ s.d.length) (k6 : FnOK Try.prog 49 [.d (.sl (all.map ivD)), .d (ivD (0, b))] [] (.d (.sl (cm.map ivD))) []) (k7 : FnOK Try.prog 50 [oAV ⟨b, s.d.drop x.toNat, s.n, m, cm⟩] [.row 5 (m.map ckD)] (.d (.bool q)) [.row 5 (m'.map ckD)]) : FnOK Try.prog 20 ([.d (sqD s), .d (.int .i64 u), .d (.sl (l.map ivD)), .d (.int .i64 now)]) ([]) (.tup [.d (sqD ⟨b, s.d.drop x.toNat, s.n, m', cm⟩), .d (rpD ⟨IntKind.i64.wrap (na - nc), v, q⟩)]) ([]) := by
  refine fnOK_wp (p := (FnOK Try.prog 45 [AV.d (.agg [D.int .i64 s.b, D.str s.d, D.int .i64 s.n, D.sl (List.map ckD s.fl), D.sl (List.map ivD s.cm)]), AV.d (.int .i64 u), AV.d (.sl (List.map ivD l))] [] (AV.d (.bool true)) []) ∧ ((FnOK Try.prog 32 [AV.d (.sl (List.map ivD s.cm)), AV.d (.agg [D.int .i64 s.b, D.int .i64 u])] [] (AV.d (.sl (List.map ivD all0))) []) ∧ ((AV.d (.int .i64 u) = AV.d (.int .i64 u)) ∧ ((AV.d (.int .i64 now) = AV.d (.int .i64 now)) ∧ ((AV.ptr 1032 0 = AV.ptr 1032 0) ∧ ((AV.ptr 1064 0 = AV.ptr 1064 0) ∧ ((AV.ptr 1072 0 = AV.ptr 1072 0) ∧ ((AV.ptr 1080 0 = AV.ptr 1080 0) ∧ ((AV.d (.sl (List.map ivD all0)) = AV.d (.sl (List.map ivD all0))) ∧ ((AV.d (.sl (List.map ivD l)) = AV.d (.sl (List.map ivD l))) ∧ ((AV.d (.int .i64 (↑(List.map ivD l).length : Int)) = AV.d (.int .i64 (↑l.length : Int))) ∧ ((AV.d (.int .i64 (0 : Int)) = AV.d (.int .i64 (0 : Int))) ∧ ((Ob.box [AV.d (.int .i64 s.b), AV.d (.str s.d), AV.d (.int .i64 s.n), AV.d (.sl (List.map ckD s.fl)), AV.d (.sl (List.map ivD s.cm))] = Ob.box [AV.d (.int .i64 s.b), AV.d (.str s.d), AV.d (.int .i64 s.n), AV.d (.sl (List.map ckD s.fl)), AV.d (.sl (List.map ivD s.cm))]) ∧ ((Ob.box [AV.d (.int .i64 (0 : Int)), AV.d (.str []), AV.d (.int .i64 (0 : Int)), AV.raw (Value.slice none 0 0), AV.raw (Value.slice none 0 0)] = Ob.box [AV.d (.int .i64 (0 : Int)), AV.d (.str []), AV.d (.int .i64 (0 : Int)), AV.raw (Value.slice none 0 0), AV.raw (Value.slice none 0 0)]) ∧ ((Ob.box [AV.d (.int .i64 (0 : Int)), AV.d (.int .i64 (0 : Int)), AV.d (.bool false)] = Ob.box [AV.d (.int .i64 (0 : Int)), AV.d (.int .i64 (0 : Int)), AV.d (.bool false)]) ∧ ((Ob.box [AV.d (.int .i64 (0 : Int)), AV.d (.int .i64 (-1 : Int)), AV.d (.bool false)] = Ob.box [AV.d (.int .i64 (0 : Int)), AV.d (.int .i64 (-1 : Int)), AV.d (.bool false)]) ∧ ((LoopsS Try.prog 0 (loopN Try.prog 20 0) (I20 s u now l all0 0) (Exit.exit 0) (I20 s u now l all l.length) 115) ∧ ((FnOK Try.prog 46 [AV.d (.sl (List.map ivD all))] [] (AV.d (.int .i64 na)) []) ∧ ((FnOK Try.prog 46 [AV.d (.sl (List.map ivD s.cm))] [] (AV.d (.int .i64 nc)) []) ∧ ((AV.d (.int .i64 u) = AV.d (.int .i64 u)) ∧ ((AV.d (.int .i64 now) = AV.d (.int .i64 now)) ∧ ((AV.ptr 0 0 = AV.ptr 0 0) ∧ ((AV.ptr 1 0 = AV.ptr 1 0) ∧ ((AV.ptr 2 0 = AV.ptr 2 0) ∧ ((AV.ptr 3 0 = AV.ptr 3 0) ∧ ((AV.d (.sl (List.map ivD all)) = AV.d (.sl (List.map ivD all))) ∧ ((AV.ptr 1112 0 = AV.ptr 1112 0) ∧ ((AV.d (.sl (List.map ckD s.fl)) = AV.d (.sl (List.map ckD s.fl))) ∧ ((AV.d (.int .i64 (↑(List.map ckD s.fl).length : Int)) = AV.d (.int .i64 (↑s.fl.length : Int))) ∧ ((AV.d (.int .i64 (0 : Int)) = AV.d (.int .i64 (0 : Int))) ∧ ((Ob.box [AV.d (.int .i64 s.b), AV.d (.str s.d), AV.d (.int .i64 s.n), AV.d (.sl (List.map ckD s.fl)), AV.d (.sl (List.map ivD s.cm))] = Ob.box [AV.d (.int .i64 s.b), AV.d (.str s.d), AV.d (.int .i64 s.n), AV.d (.sl (List.map ckD s.fl)), AV.d (.sl (List.map ivD s.cm))]) ∧ ((Ob.box [AV.d (.int .i64 (0 : Int)), AV.d (.str []), AV.d (.int .i64 (0 : Int)), AV.raw (Value.slice none 0 0), AV.raw (Value.slice none 0 0)] = Ob.box [AV.d (.int .i64 (0 : Int)), AV.d (.str []), AV.d (.int .i64 (0 : Int)), AV.raw (Value.slice none 0 0), AV.raw (Value.slice none 0 0)]) ∧ ((Ob.box [AV.d (.int .i64 (0 : Int)), AV.d (.int .i64 (0 : Int)), AV.d (.bool false)] = Ob.box [AV.d (.int .i64 (0 : Int)), AV.d (.int .i64 (0 : Int)), AV.d (.bool false)]) ∧ ((Ob.box [AV.d (.int .i64 (IntKind.i64.wrap (na - nc))), AV.d (.int .i64 (-1 : Int)), AV.d (.bool false)] = Ob.box [AV.d (.int .i64 (IntKind.i64.wrap (na - nc))), AV.d (.int .i64 (-1 : Int)), AV.d (.bool false)]) ∧ ((Ob.box [AV.d (.int .i64 (0 : Int)), AV.d (.str []), AV.d (.int .i64 s.n), AV.own 500 5, AV.raw (Value.slice none 0 0)] = Ob.box [AV.d (.int .i64 (0 : Int)), AV.d (.str []), AV.d (.int .i64 s.n), AV.own 500 5, AV.raw (Value.slice none 0 0)]) ∧ ((Ob.row 5 [] = Ob.row 5 []) ∧ ((LoopsS Try.prog 0 (loopN Try.prog 20 1) (J20 s u now all (IntKind.i64.wrap (na - nc)) (-1 : Int) [] 0) (Exit.exit 2) (J20 s u now all (IntKind.i64.wrap (na - nc)) v m s.fl.length) 115) ∧ ((FnOK Try.prog 48 [AV.d (.sl (List.map ivD all)), AV.d (.int .i64 u)] [] (AV.d (.int .i64 b)) []) ∧ ((D.int .i64 (IntKind.i64.wrap (b - s.b)) = D.int .i64 x) ∧ (((0 : Int) ≤ x ∧ x ≤ (↑s.d.length : Int) ∧ (↑s.d.length : Int) ≤ (↑s.d.length : Int)) ∧ ((FnOK Try.prog 49 [AV.d (.sl (List.map ivD all)), AV.d (.agg [D.int .i64 (0 : Int), D.int .i64 b])] [] (AV.d (.sl (List.map ivD cm))) []) ∧ ((FnOK Try.prog 50 [AV.agg [AV.d (.int .i64 b), AV.d (.str (List.drop x.toNat (List.take (↑s.d.length : Int).toNat s.d))), AV.d (.int .i64 s.n), AV.own 0 5, AV.d (.sl (List.map ivD cm))]] [Ob.row 5 (List.map ckD m)] (AV.d (.bool q)) [Ob.row 5 (List.map ckD m')]) ∧ ((AV.tup [AV.d (.agg [D.int .i64 b, D.str (List.drop x.toNat (List.take (↑s.d.length : Int).toNat s.d)), D.int .i64 s.n, D.sl (List.map ckD m'), D.sl (List.map ivD cm)]), AV.d (.agg [D.int .i64 (IntKind.i64.wrap (na - nc)), D.int .i64 v, D.bool q])] = AV.tup [AV.d (.agg [D.int .i64 (Sq.mk b (List.drop x.toNat s.d) s.n m' cm).b, D.str (Sq.mk b (List.drop x.toNat s.d) s.n m' cm).d, D.int .i64 (Sq.mk b (List.drop x.toNat s.d) s.n m' cm).n, D.sl (List.map ckD (Sq.mk b (List.drop x.toNat s.d) s.n m' cm).fl), D.sl (List.map ivD (Sq.mk b (List.drop x.toNat s.d) s.n m' cm).cm)]), AV.d (.agg [D.int .i64 (Rp.mk (IntKind.i64.wrap (na - nc)) v q).a, D.int .i64 (Rp.mk (IntKind.i64.wrap (na - nc)) v q).s, D.bool (Rp.mk (IntKind.i64.wrap (na - nc)) v q).l])]) ∧ (True)))))))))))))))))))))))))))))))))))))))))))) (h := {W := [(12, [.nilcell 1112 3 500 5])], H := [(2, [(3, .call [] (.d (.bool true)) [])]), (4, [(6, .call [] (.d (.sl (all0.map ivD))) [])]), (10, [(1, .call [] (.d (.int .i64 na)) []), (4, .call [] (.d (.int .i64 nc)) [])]), (22, [(2, .call [] (.d (.int .i64 b)) [])]), (23, [(6, .val (.int .i64 x))]), (24, [(4, .call [] (.d (.sl (cm.map ivD))) [])]), (25, [(1, .call [5] (.d (.bool q)) [.row 5 (m'.map ckD)])])]}) (subs := [⟨[], [], I20 s u now l all0 0, .exit 0, I20 s u now l all l.length⟩, ⟨[], [], J20 s u now all (IntKind.i64.wrap (na - nc)) (-1) [] 0, .exit 2, J20 s u now all (IntKind.i64.wrap (na - nc)) v m s.fl.length⟩]) (ws := []) (ρ := []) (by kernel_rfl) ?_
  have htk : List.take ((s.d.length : Int)).toNat s.d = s.d := by rw [Int.toNat_natCast, List.take_length]
  try simp only [htk, List.length_map]
  repeat' (with_reducible first | exact True.intro | apply And.intro | (first | apply zA | apply zB | apply zC | apply zD | apply zE | apply zF | apply zG) <;> intro)
  all_goals first | exact k1 | exact k2 | exact k3 | exact k4 | exact k5 | exact k6 | exact k7 | exact hA | exact hB | exact congrArg (D.int .i64) hx | rfl | omega | (rw [List.take_length]; done) | (rw [List.take_length]; rfl) | skip

theorem ackS_len (all : List Iv) (now : Int) : ∀ (l : List Ck) (p : List Ck × Int), (l.foldl (ackS all now) p).1.length ≤ p.1.length + l.length * (all.length + 1)
  | [], p => by show p.1.length ≤ _; omega
  | c :: l, p => by
    have h1 := ackS_len all now l (ackS all now p c)
    have h2 := rGaps_len all (ckI c)
    have h3 : (ackS all now p c).1.length = p.1.length + (rGaps all (ckI c)).length := by unfold ackS lft; rw [List.length_append, List.length_map]
    show (l.foldl (ackS all now) (ackS all now p c)).1.length ≤ _
    rw [List.length_cons, Nat.succ_mul]
    omega
theorem lft_len (c : Ck) (all : List Iv) : (lft c all).length ≤ all.length + 1 := by unfold lft; rw [List.length_map]; exact rGaps_len all (ckI c)
theorem rLose_eq (s : Sq) : (rLose s).1 = { s with fl := (rLose s).1.fl } := by
  unfold rLose
  cases s.cm.getLast? <;> rfl
theorem ack20 (s : Sq) (h : SqOk s) (hf : s.fl.length < 10000) (hc : s.cm.length < 10000) (u : Int) (l : List Iv) (hl : l.length < 10000) (now : Int) :
    FnOK Try.prog 20 [.d (sqD s), .d (.int .i64 u), .d (.sl (l.map ivD)), .d (.int .i64 now)] [] (.tup [.d (sqD (rAck s u l now).1), .d (rpD (rAck s u l now).2)]) [] := by
  have k1 := may45 s h u l (by omega)
  unfold rAck
  cases hq : mayQ s u l
  · rw [hq] at k1
    exact ack20n s u l now k1 (ownD s h)
  · rw [hq] at k1
    rw [if_neg (by simp)]
    have ao := all_ok h.n.2 hq
    have hlen := ackAll_len s u l
    have hA := loops_n (P := Try.prog) (k := 0) (c := loopN Try.prog 20 0) (e := .exit 0) (I := fun j => (I20 s u now l ((l.take j).foldl rAdd (rAdd s.cm (s.b, u))) j).as 115) (by simp) l.length 0 (by omega) (fun j _ hj => by
      have hn := get_of hj
      show Runs _ _ _ _ _ ((I20 s u now l ((l.take (j + 1)).foldl rAdd (rAdd s.cm (s.b, u))) (j + 1)).as _)
      rw [take_snoc hn, List.foldl_append]
      have h1 := adds_len (l.take j) (rAdd s.cm (s.b, u))
      have h2 := rAdd_len1 s.cm (s.b, u)
      rw [List.length_take] at h1
      exact r20 s u now l _ _ (by omega) j _ hn (add11 _ (by omega) _)) (by simp only [List.take_length]; exact q20 s u now l _)
    have hA2 : Loops Try.prog 0 (loopN Try.prog 20 0) ((I20 s u now l (rAdd s.cm (s.b, u)) 0).as 115) (.exit 0) ((I20 s u now l (ackAll s u l) l.length).as 115) := hA
    clear hA
    generalize ackAll s u l = all at *
    obtain ⟨f1, f2, f3, f4⟩ := first_in ao
    have hb0 := ao.b0
    have hbu := ao.bu
    have hnd := ao.nd
    have hnb := ao.nb
    have hB := loops_n (P := Try.prog) (k := 0) (c := loopN Try.prog 20 1) (e := .exit 2) (I := fun j => (J20 s u now all (IntKind.i64.wrap (rCount all - rCount s.cm)) ((s.fl.take j).foldl (ackS all now) ([], -1)).2 ((s.fl.take j).foldl (ackS all now) ([], -1)).1 j).as 115) (by simp) s.fl.length 0 (by omega) (fun j _ hj => by
      have hn := get_of hj
      show Runs _ _ _ _ _ ((J20 s u now all _ ((s.fl.take (j + 1)).foldl (ackS all now) ([], -1)).2 ((s.fl.take (j + 1)).foldl (ackS all now) ([], -1)).1 (j + 1)).as _)
      rw [take_snoc hn, List.foldl_append]
      have h1 := ackS_len all now (s.fl.take j) ([], -1)
      have h2 := lft_len s.fl[j] all
      have h3 : (s.fl.take j).length * (all.length + 1) ≤ 10000 * 20003 := Nat.mul_le_mul (by rw [List.length_take]; omega) (by omega)
      simp only [List.length_nil] at h1
      exact step20 s u now all (by omega) _ _ (by omega) j _ hn (by omega)) (by simp only [List.take_length]; exact t20 s u now all _ _ _)
    have hxl := wrap_in (x := rFirst all u - s.b) (by omega) (by omega)
    have h1 := ackS_len all now s.fl ([], -1)
    have h3 : s.fl.length * (all.length + 1) ≤ 10000 * 20003 := Nat.mul_le_mul (by omega) (by omega)
    simp only [List.length_nil] at h1
    have hcl := rCut_len all (0, rFirst all u)
    have k7 := lose50 (acO s u all now) (by show (ackF s all now).1.length < _; unfold ackF; omega) (by show (rCut all (0, rFirst all u)).length < _; omega)
    rw [rLose_eq]
    exact ack20y s u l now (rAdd s.cm (s.b, u)) all (rCut all (0, rFirst all u)) (rCount all) (rCount s.cm) (rFirst all u) (rFirst all u - s.b) (ackF s all now).2 (ackF s all now).1 _ _ h.d k1 (add11 s.cm (by omega) _) hA2 (count21 all (by omega)) (count21 s.cm (by omega)) hB (first28 all (by omega) u) hxl (by omega) (by omega) (cut13 all (by omega) _) k7
end Go.Proofs.Ytfllhedkgeljaaa


set_option linter.unusedSimpArgs false
set_option linter.unusedVariables false
namespace Go.Proofs.Ytfllhedkgeljaaa
open Sx Go.RowKit C06
theorem srt_last : ∀ {l : List Iv} {e : Int} {z : Iv}, Srt e l → l.getLast? = some z → ∀ x ∈ l, x.2 ≤ z.2
  | [], e, z, _, hz, x, hx => by cases hx
  | [y], e, z, h, hz, x, hx => by
    simp at hz hx
    subst hz; subst hx
    exact Int.le_refl _
  | y :: w :: l, e, z, h, hz, x, hx => by
    have hz' : (w :: l).getLast? = some z := by rw [List.getLast?_cons_cons] at hz; exact hz
    have ih := srt_last h.2 hz'
    rcases List.mem_cons.1 hx with rfl | hx
    · have h1 := ih w (by simp)
      have h2 := h.2.1
      omega
    · exact ih x hx
theorem srt_first {l : List Iv} {e : Int} {y : Iv} (h : Srt e l) (hy : l.head? = some y) : ∀ x ∈ l, y.1 ≤ x.1 := by
  cases l with
  | nil => cases hy
  | cons w l =>
    simp at hy
    subst hy
    intro x hx
    rcases List.mem_cons.1 hx with rfl | hx
    · exact Int.le_refl _
    · have h1 := srt_mem h.2 x hx
      have h2 := h.1
      omega
theorem ends_or (l : List Iv) : l = [] ∨ ∃ y z, l.head? = some y ∧ l.getLast? = some z ∧ y ∈ l ∧ z ∈ l := by
  by_cases h : l = []
  · exact .inl h
  · exact .inr ⟨l.head h, l.getLast h, List.head?_eq_some_head h, List.getLast?_eq_some_getLast h, List.head_mem h, List.getLast_mem h⟩
theorem ends_all {l : List Iv} (h : Ok l) (p : Iv → Bool) (a b : Int) (hp : ∀ x, p x = true ↔ a ≤ x.1 ∧ x.2 ≤ b) :
    (match l.head?, l.getLast? with | some y, some z => decide (a ≤ y.1 ∧ z.2 ≤ b) | _, _ => true) = l.all p := by
  rcases ends_or l with rfl | ⟨y, z, h1, h2, h3, h4⟩
  · rfl
  · rw [h1, h2, Bool.eq_iff_iff, List.all_eq_true]
    show decide _ = true ↔ _
    rw [decide_eq_true_eq]
    constructor
    · intro g x hx
      have a1 := srt_first h.srt h1 x hx
      have a2 := srt_last h.srt h2 x hx
      exact (hp x).2 (by omega)
    · intro g
      have g1 := (hp y).1 (g y h3)
      have g2 := (hp z).1 (g z h4)
      omega
theorem ok_one {x : Iv} (h0 : 0 ≤ x.1) (h1 : x.1 < x.2) (h2 : x.2 ≤ 4611686018427387903) : Ok [x] := one_ok (mayB_iff.2 ⟨⟨h0, by omega⟩, by omega, h2⟩) (decide_eq_false (by omega))
theorem has_one (x : Iv) (n : Int) : has [x] n = inV x n := by unfold has inV; simp
theorem ok_nil : Ok [] := ⟨trivial, fun x hx => by cases hx⟩
theorem free_iff {cm : List Iv} (ok : Ok cm) {x : Iv} (h0 : 0 ≤ x.1) (h1 : x.1 < x.2) (h2 : x.2 ≤ 4611686018427387903) : rGaps cm x = [x] ↔ dMeet [x] cm = [] := by
  have o1 := ok_one h0 h1 h2
  have hm : mayB x = true := mayB_iff.2 ⟨⟨h0, by omega⟩, by omega, h2⟩
  obtain ⟨g1, g2⟩ := gaps_ok ok hm
  obtain ⟨m1, m2⟩ := meet_ok o1 ok
  rw [← meet_same]
  constructor
  · intro e
    refine ok_inj m1 ok_nil fun n => ?_
    have := g2 n
    rw [e, has_one] at this
    rw [m2, has_one]
    show _ = false
    cases hv : inV x n
    · rfl
    · rw [hv] at this
      cases hc : has cm n
      · rfl
      · rw [hc] at this; cases this
  · intro e
    refine ok_inj g1 o1 fun n => ?_
    have := m2 n
    rw [e, has_one] at this
    rw [g2, has_one]
    have h0 : has [] n = false := rfl
    rw [h0] at this
    cases hv : inV x n
    · rfl
    · rw [hv] at this
      cases hc : has cm n
      · rfl
      · rw [hc] at this; cases this
theorem cnt_pos : ∀ {l : List Iv} {e : Int}, Srt e l → 0 ≤ cnt l ∧ (l ≠ [] → 0 < cnt l)
  | [], e, _ => ⟨Int.le_refl _, fun h => absurd rfl h⟩
  | x :: l, e, h => by
    have ih := cnt_pos h.2
    have := h.1
    have e1 : cnt (x :: l) = (x.2 - x.1) + cnt l := rfl
    exact ⟨by omega, fun _ => by omega⟩
theorem szS_cnt (c : Ck) : ∀ (l : List Iv) (e M n : Int), Srt e l → -1 ≤ e → (∀ x ∈ l, x.2 ≤ M) → M ≤ 4611686018427387903 → 0 ≤ n → n ≤ e + 1 → (l.map (part c)).foldl szS n = n + cnt l
  | [], e, M, n, _, _, _, _, _, _ => by show n = n + 0; omega
  | x :: l, e, M, n, h, he, hM, hM2, h0, hn => by
    have hx := h.1
    have hx2 := hM x (by simp)
    have e1 : cSz (part c x) = x.2 - x.1 := wrap_in (by show _ ≤ x.2 - x.1; omega) (by show x.2 - x.1 < _; omega)
    have e2 : szS n (part c x) = n + (x.2 - x.1) := by unfold szS; rw [e1]; exact wrap_in (by omega) (by omega)
    have ih := szS_cnt c l x.2 M (n + (x.2 - x.1)) h.2 (by omega) (fun y hy => hM y (List.mem_cons_of_mem _ hy)) hM2 (by omega) (by omega)
    rw [List.map_cons, List.foldl_cons, e2, ih]
    show _ = n + ((x.2 - x.1) + cnt l)
    omega
theorem gap_meet {all : List Iv} (ok : Ok all) {x : Iv} (h0 : 0 ≤ x.1) (h1 : x.1 < x.2) (h2 : x.2 ≤ 4611686018427387903) : cnt (rGaps all x) + cnt (rMeet [x] all) = x.2 - x.1 := by
  have o1 := ok_one h0 h1 h2
  have hm : mayB x = true := mayB_iff.2 ⟨⟨h0, by omega⟩, by omega, h2⟩
  obtain ⟨g1, g2⟩ := gaps_ok ok hm
  obtain ⟨m1, m2⟩ := meet_ok o1 ok
  have hK : (x.2.toNat : Int) = x.2 := by omega
  have l1 : Low x.2.toNat (rGaps all x) := ⟨g1, fun n hn => by rw [g2, show inV x n = false from decide_eq_false (by omega)]; rfl⟩
  have l2 : Low x.2.toNat (rMeet [x] all) := ⟨m1, fun n hn => by rw [m2, has_one, show inV x n = false from decide_eq_false (by omega)]; rfl⟩
  have c1 := cnt_num (K := x.2.toNat) (by omega) g1.srt (low_end l1)
  have c2 := cnt_num (K := x.2.toNat) (by omega) m1.srt (low_end l2)
  rw [c1, c2, ← num_or (fun n _ hn => by
    rw [g2, Bool.and_eq_true, Bool.not_eq_true'] at hn
    rw [m2, hn.2, Bool.and_false])]
  have e : num (fun n => has (rGaps all x) n || has (rMeet [x] all) n) x.2.toNat = num (inV x) x.2.toNat := num_ext fun n _ => by
    rw [g2, m2, has_one]
    cases inV x n <;> cases has all n <;> rfl
  rw [e, num_in h0 (by omega), if_neg (by omega)]
  omega
theorem fold_ext {α β : Type} {f g : β → α → β} : ∀ {l : List α}, (∀ x ∈ l, ∀ b, f b x = g b x) → ∀ b, l.foldl f b = l.foldl g b
  | [], _, b => rfl
  | x :: l, h, b => by
    rw [List.foldl_cons, List.foldl_cons, h x (by simp) b]
    exact fold_ext (fun y hy => h y (List.mem_cons_of_mem _ hy)) _
theorem fl_in {s : Sq} (hn : s.n < 9223372036854775808) (h : sChk s = 0) {c : Ck} (hc : c ∈ s.fl) : s.b ≤ c.f ∧ c.f < c.t ∧ c.t ≤ s.n ∧ c.t - c.f ≤ 48 ∧ (0 ≤ c.s ∧ c.s ≤ 1099511627776) ∧ (1 ≤ c.r ∧ c.r ≤ 1073741824) := by
  obtain ⟨⟨c1, c2, c3, c4⟩, c5, c6, c7⟩ := sChk_ok hn h
  unfold lastP at c2
  obtain ⟨a', ha1, ha2⟩ := flB_mem s s.fl s.b c7 c hc
  have := fits_in (a := a') (by omega) (by omega) ha2
  omega
end Go.Proofs.Ytfllhedkgeljaaa


/-
laws 11: awake.
-/
set_option linter.unusedSimpArgs false
set_option linter.unusedVariables false
namespace Go.Proofs.Ytfllhedkgeljaaa
open Sx Go.RowKit C06

def tAbc : List UInt8 := [97, 98, 99]
def v0 : Sq := ⟨0, [], 0, [], []⟩
def v1 : Sq := ⟨0, [97, 98, 99], 0, [], []⟩
def d1 : Ck := ⟨0, 2, 7, 1, false⟩
def v2 : Sq := ⟨0, [97, 98, 99], 2, [⟨0, 2, 7, 1, false⟩], []⟩
def v3 : Sq := ⟨1, [98, 99], 2, [⟨1, 2, 7, 1, false⟩], []⟩
def v4 : Sq := ⟨1, [98, 99], 2, [⟨1, 2, 7, 1, true⟩], []⟩
def d5 : Ck := ⟨1, 2, 9, 2, false⟩
def v5 : Sq := ⟨1, [98, 99], 2, [⟨1, 2, 9, 2, false⟩], []⟩
set_option maxRecDepth 100000 in
set_option maxHeartbeats 1000000 in
theorem aw8  : FnOK Try.prog 8 ([]) ([]) (.d (.bool true)) ([]) := by
  refine fnOK_wp (p := (FnOK Try.prog 30 [] [] (AV.d (.agg [D.int .i64 (0 : Int), D.str [], D.int .i64 (0 : Int), D.sl [], D.sl []])) []) ∧ ((FnOK Try.prog 10 [AV.d (.agg [D.int .i64 (0 : Int), D.str [], D.int .i64 (0 : Int), D.sl [], D.sl []]), AV.d (.str [(97 : UInt8), (98 : UInt8), (99 : UInt8)])] [] (AV.tup [AV.d (.agg [D.int .i64 (0 : Int), D.str [(97 : UInt8), (98 : UInt8), (99 : UInt8)], D.int .i64 (0 : Int), D.sl [], D.sl []]), AV.d (.int .i64 (3 : Int))]) []) ∧ ((FnOK Try.prog 12 [AV.d (.agg [D.int .i64 (0 : Int), D.str [(97 : UInt8), (98 : UInt8), (99 : UInt8)], D.int .i64 (0 : Int), D.sl [], D.sl []]), AV.d (.int .i64 (7 : Int)), AV.d (.int .i64 (2 : Int)), AV.d (.int .i64 (96 : Int))] [] (AV.tup [AV.d (.agg [D.int .i64 (0 : Int), D.str [(97 : UInt8), (98 : UInt8), (99 : UInt8)], D.int .i64 (2 : Int), D.sl [D.agg [D.int .i64 (0 : Int), D.int .i64 (2 : Int), D.int .i64 (7 : Int), D.int .i64 (1 : Int), D.bool false]], D.sl []]), AV.d (.agg [D.int .i64 (0 : Int), D.int .i64 (2 : Int), D.int .i64 (7 : Int), D.int .i64 (1 : Int), D.bool false]), AV.d (.str [(97 : UInt8), (98 : UInt8)])]) []) ∧ ((FnOK Try.prog 12 [AV.d (.agg [D.int .i64 (0 : Int), D.str [(97 : UInt8), (98 : UInt8), (99 : UInt8)], D.int .i64 (2 : Int), D.sl [D.agg [D.int .i64 (0 : Int), D.int .i64 (2 : Int), D.int .i64 (7 : Int), D.int .i64 (1 : Int), D.bool false]], D.sl []]), AV.d (.int .i64 (7 : Int)), AV.d (.int .i64 (2 : Int)), AV.d (.int .i64 (96 : Int))] [] (AV.tup [AV.d (.agg [D.int .i64 (0 : Int), D.str [(97 : UInt8), (98 : UInt8), (99 : UInt8)], D.int .i64 (2 : Int), D.sl [D.agg [D.int .i64 (0 : Int), D.int .i64 (2 : Int), D.int .i64 (7 : Int), D.int .i64 (1 : Int), D.bool false]], D.sl []]), AV.d (.agg [D.int .i64 (0 : Int), D.int .i64 (0 : Int), D.int .i64 (0 : Int), D.int .i64 (0 : Int), D.bool false]), AV.d (.str [])]) []) ∧ ((FnOK Try.prog 20 [AV.d (.agg [D.int .i64 (0 : Int), D.str [(97 : UInt8), (98 : UInt8), (99 : UInt8)], D.int .i64 (2 : Int), D.sl [D.agg [D.int .i64 (0 : Int), D.int .i64 (2 : Int), D.int .i64 (7 : Int), D.int .i64 (1 : Int), D.bool false]], D.sl []]), AV.d (.int .i64 (1 : Int)), AV.d (.sl []), AV.d (.int .i64 (9 : Int))] [] (AV.tup [AV.d (.agg [D.int .i64 (1 : Int), D.str [(98 : UInt8), (99 : UInt8)], D.int .i64 (2 : Int), D.sl [D.agg [D.int .i64 (1 : Int), D.int .i64 (2 : Int), D.int .i64 (7 : Int), D.int .i64 (1 : Int), D.bool false]], D.sl []]), AV.d (.agg [D.int .i64 (1 : Int), D.int .i64 (2 : Int), D.bool false])]) []) ∧ ((FnOK Try.prog 14 [AV.d (.agg [D.int .i64 (1 : Int), D.str [(98 : UInt8), (99 : UInt8)], D.int .i64 (2 : Int), D.sl [D.agg [D.int .i64 (1 : Int), D.int .i64 (2 : Int), D.int .i64 (7 : Int), D.int .i64 (1 : Int), D.bool false]], D.sl []])] [] (AV.tup [AV.d (.agg [D.int .i64 (1 : Int), D.str [(98 : UInt8), (99 : UInt8)], D.int .i64 (2 : Int), D.sl [D.agg [D.int .i64 (1 : Int), D.int .i64 (2 : Int), D.int .i64 (7 : Int), D.int .i64 (1 : Int), D.bool true]], D.sl []]), AV.d (.bool true)]) []) ∧ ((FnOK Try.prog 12 [AV.d (.agg [D.int .i64 (1 : Int), D.str [(98 : UInt8), (99 : UInt8)], D.int .i64 (2 : Int), D.sl [D.agg [D.int .i64 (1 : Int), D.int .i64 (2 : Int), D.int .i64 (7 : Int), D.int .i64 (1 : Int), D.bool true]], D.sl []]), AV.d (.int .i64 (9 : Int)), AV.d (.int .i64 (0 : Int)), AV.d (.int .i64 (0 : Int))] [] (AV.tup [AV.d (.agg [D.int .i64 (1 : Int), D.str [(98 : UInt8), (99 : UInt8)], D.int .i64 (2 : Int), D.sl [D.agg [D.int .i64 (1 : Int), D.int .i64 (2 : Int), D.int .i64 (9 : Int), D.int .i64 (2 : Int), D.bool false]], D.sl []]), AV.d (.agg [D.int .i64 (1 : Int), D.int .i64 (2 : Int), D.int .i64 (9 : Int), D.int .i64 (2 : Int), D.bool false]), AV.d (.str [(98 : UInt8)])]) []) ∧ ((FnOK Try.prog 16 [AV.d (.agg [D.int .i64 (1 : Int), D.str [(98 : UInt8), (99 : UInt8)], D.int .i64 (2 : Int), D.sl [D.agg [D.int .i64 (1 : Int), D.int .i64 (2 : Int), D.int .i64 (9 : Int), D.int .i64 (2 : Int), D.bool false]], D.sl []])] [] (AV.tup [AV.d (.int .i64 (9 : Int)), AV.d (.bool true)]) []) ∧ ((D.bool true = D.bool true) ∧ ((D.bool true = D.bool true) ∧ ((D.bool true = D.bool true) ∧ ((FnOK Try.prog 29 [AV.d (.agg [D.int .i64 (0 : Int), D.str [(97 : UInt8), (98 : UInt8), (99 : UInt8)], D.int .i64 (2 : Int), D.sl [D.agg [D.int .i64 (0 : Int), D.int .i64 (2 : Int), D.int .i64 (7 : Int), D.int .i64 (1 : Int), D.bool false]], D.sl []]), AV.d (.agg [D.int .i64 (0 : Int), D.str [(97 : UInt8), (98 : UInt8), (99 : UInt8)], D.int .i64 (2 : Int), D.sl [D.agg [D.int .i64 (0 : Int), D.int .i64 (2 : Int), D.int .i64 (7 : Int), D.int .i64 (1 : Int), D.bool false]], D.sl []])] [] (AV.d (.bool true)) []) ∧ ((D.bool true = D.bool true) ∧ ((D.bool true = D.bool true) ∧ ((D.bool true = D.bool true) ∧ ((D.bool true = D.bool true) ∧ ((D.bool true = D.bool true) ∧ ((D.bool true = D.bool true) ∧ ((FnOK Try.prog 24 [AV.d (.agg [D.int .i64 (1 : Int), D.str [(98 : UInt8), (99 : UInt8)], D.int .i64 (2 : Int), D.sl [D.agg [D.int .i64 (1 : Int), D.int .i64 (2 : Int), D.int .i64 (7 : Int), D.int .i64 (1 : Int), D.bool false]], D.sl []])] [] (AV.d (.int .i64 (1 : Int))) []) ∧ ((D.bool true = D.bool true) ∧ ((D.bool true = D.bool true) ∧ ((FnOK Try.prog 24 [AV.d (.agg [D.int .i64 (1 : Int), D.str [(98 : UInt8), (99 : UInt8)], D.int .i64 (2 : Int), D.sl [D.agg [D.int .i64 (1 : Int), D.int .i64 (2 : Int), D.int .i64 (7 : Int), D.int .i64 (1 : Int), D.bool true]], D.sl []])] [] (AV.d (.int .i64 (0 : Int))) []) ∧ ((D.bool true = D.bool true) ∧ ((D.bool true = D.bool true) ∧ ((D.bool true = D.bool true) ∧ ((D.bool true = D.bool true) ∧ ((D.bool true = D.bool true) ∧ ((FnOK Try.prog 26 [AV.d (.agg [D.int .i64 (1 : Int), D.str [(98 : UInt8), (99 : UInt8)], D.int .i64 (2 : Int), D.sl [D.agg [D.int .i64 (1 : Int), D.int .i64 (2 : Int), D.int .i64 (9 : Int), D.int .i64 (2 : Int), D.bool false]], D.sl []])] [] (AV.d (.int .i64 (4094 : Int))) []) ∧ ((D.bool true = D.bool true) ∧ ((FnOK Try.prog 28 [AV.d (.agg [D.int .i64 (1 : Int), D.str [(98 : UInt8), (99 : UInt8)], D.int .i64 (2 : Int), D.sl [D.agg [D.int .i64 (1 : Int), D.int .i64 (2 : Int), D.int .i64 (9 : Int), D.int .i64 (2 : Int), D.bool false]], D.sl []])] [] (AV.d (.int .i64 (0 : Int))) []) ∧ ((D.bool true = D.bool true) ∧ ((FnOK Try.prog 29 [AV.d (.agg [D.int .i64 (1 : Int), D.str [(98 : UInt8), (99 : UInt8)], D.int .i64 (2 : Int), D.sl [D.agg [D.int .i64 (1 : Int), D.int .i64 (2 : Int), D.int .i64 (7 : Int), D.int .i64 (1 : Int), D.bool true]], D.sl []]), AV.d (.agg [D.int .i64 (1 : Int), D.str [(98 : UInt8), (99 : UInt8)], D.int .i64 (2 : Int), D.sl [D.agg [D.int .i64 (1 : Int), D.int .i64 (2 : Int), D.int .i64 (9 : Int), D.int .i64 (2 : Int), D.bool false]], D.sl []])] [] (AV.d (.bool false)) []) ∧ ((AV.d (.bool true) = AV.d (.bool true)) ∧ (True)))))))))))))))))))))))))))))))))) (h := {chain := true, H := [(1, [(0, .call [] (.d (sqD v0)) []), (1, .call [] (.tup [.d (sqD v1), .d (.int .i64 3)]) [])]), (2, [(1, .call [] (.tup [.d (sqD v2), .d (ckD d1), .d (.str [97, 98])]) [])]), (3, [(1, .call [] (.tup [.d (sqD v2), .d (ckD ck0), .d (.str [])]) [])]), (4, [(1, .call [] (.tup [.d (sqD v3), .d (rpD ⟨1, 2, false⟩)]) [])]), (5, [(1, .call [] (.tup [.d (sqD v4), .d (.bool true)]) [])]), (6, [(1, .call [] (.tup [.d (sqD v5), .d (ckD d5), .d (.str [98])]) [])]), (7, [(1, .call [] (.tup [.d (.int .i64 9), .d (.bool true)]) [])]), (8, [(14, .call [] (.d (.bool true)) []), (42, .call [] (.d (.int .i64 1)) []), (50, .call [] (.d (.int .i64 0)) []), (71, .call [] (.d (.int .i64 4094)) []), (76, .call [] (.d (.int .i64 0)) []), (82, .call [] (.d (.bool false)) [])])]}) (subs := []) (ws := []) (ρ := []) (by kernel_rfl) ?_
  have k0 := new30 trivial trivial
  have o0 : SqOk v0 := ⟨by decide, by decide, by decide, by decide, by decide⟩
  have o1 : SqOk v1 := ⟨by decide, by decide, by decide, by decide, by decide⟩
  have o2 : SqOk v2 := ⟨by decide, by decide, by decide, by decide, by decide⟩
  have o3 : SqOk v3 := ⟨by decide, by decide, by decide, by decide, by decide⟩
  have o4 : SqOk v4 := ⟨by decide, by decide, by decide, by decide, by decide⟩
  have o5 : SqOk v5 := ⟨by decide, by decide, by decide, by decide, by decide⟩
  have k1 := write10 v0 o0 tAbc (by decide)
  rw [show rWrite v0 tAbc = (v1, 3) by decide +kernel] at k1
  have k2 := pick12 v1 o1 7 2 96 (by decide) (by decide)
  rw [show rPick v1 7 2 96 = (v2, d1, [97, 98]) by decide +kernel] at k2
  have k3 := pick12 v2 o2 7 2 96 (by decide) (by decide)
  rw [show rPick v2 7 2 96 = (v2, ck0, []) by decide +kernel] at k3
  have k4 := ack20 v2 o2 (by decide) (by decide) 1 [] (by decide) 9
  rw [show rAck v2 1 [] 9 = (v3, ⟨1, 2, false⟩) by decide +kernel] at k4
  have k5 := expire14 v3 o3
  rw [show rExpire v3 = (v4, true) by decide +kernel] at k5
  have k6 := pick12 v4 o4 9 0 0 (by decide) (by decide)
  rw [show rPick v4 9 0 0 = (v5, d5, [98]) by decide +kernel] at k6
  have k7 := oldest16 v5 (by decide)
  rw [show rOldest v5 = (9, true) by decide +kernel] at k7
  have s1 := same29 v2 v2 o2
  rw [show decide (v2 = v2) = true by decide] at s1
  have s2 := same29 v4 v5 o4
  rw [show decide (v4 = v5) = false by decide] at s2
  have f1 := flight24 v3 (by decide)
  rw [show rFlight v3 = 1 by decide +kernel] at f1
  have f2 := flight24 v4 (by decide)
  rw [show rFlight v4 = 0 by decide +kernel] at f2
  have r1 := room26 v5 trivial trivial
  rw [show IntKind.i64.wrap (4096 - (v5.d.length : Int)) = 4094 by decide +kernel] at r1
  have c1 := chk28 v5 (by decide) (by decide)
  rw [show sChk v5 = 0 by decide +kernel] at c1
  repeat' (with_reducible first | exact True.intro | apply And.intro | (first | apply zA | apply zB | apply zC | apply zD | apply zE | apply zF | apply zG) <;> intro)
  all_goals first | exact k0 | exact k1 | exact k2 | exact k3 | exact k4 | exact k5 | exact k6 | exact k7 | exact s1 | exact s2 | exact f1 | exact f2 | exact r1 | exact c1 | rfl | omega | skip

end Go.Proofs.Ytfllhedkgeljaaa

