/-
laws 24: RasmStream, joined. No condition beyond the statement's own.
-/
import Derived.Test.YtfacpafkldmkcaaS6
set_option linter.unusedSimpArgs false
set_option linter.unusedVariables false
namespace Go.Proofs.Ytfacpafkldmkcaa
open Sx Go.RowKit C12

set_option maxRecDepth 100000 in
set_option maxHeartbeats 1000000 in
theorem str4n (z : D) (l : List Ac) (hl : ¬l.length ≤ 60) : FnOK Try.prog 4 ([.d z, .d (.sl (l.map actD))]) ([]) (.d (.bool true)) ([]) := by
  refine fnOK_wp (p := (D.bool (decide ((↑(List.map actD l).length : Int) > (60 : Int))) = D.bool true) ∧ ((FnOK Try.prog (7 : Nat) [] [] (AV.d (D.bool true)) []) ∧ ((AV.d (D.bool true) = AV.d (D.bool true)) ∧ (True)))) (h := {H := [(1, [(2, .val (.bool true))])], G := [(7, gYes)]}) (subs := []) (ws := []) (ρ := []) (by kernel_rfl) ?_
  simp only [List.length_map]
  repeat' (first | with_reducible exact True.intro | with_reducible refine And.intro ?_ ?_ | with_reducible refine condP_dec (fun _ => ?_) (fun _ => ?_) | with_reducible refine condP_eq (fun _ => ?_) (fun _ => ?_) | with_reducible refine condP_ne (fun _ => ?_) (fun _ => ?_) | with_reducible refine condP_not (condP_dec (fun _ => ?_) (fun _ => ?_)) | with_reducible refine condP_not (condP_eq (fun _ => ?_) (fun _ => ?_)) | with_reducible refine condP_not (condP_intro (fun _ => ?_) (fun _ => ?_)) | with_reducible refine condP_intro (fun _ => ?_) (fun _ => ?_))
  all_goals first | exact aw7 | rfl | exact dyes (by omega) | skip

set_option maxRecDepth 100000 in
set_option maxHeartbeats 1000000 in
theorem str4 (z : Nat) (hz : z ≤ 255) (l : List Ac) (hl : l.length ≤ 60) (al : List UInt8) (hal : al.length = z) (x A B : Rs) (n : Int) (out u : List UInt8) (kn : Bool) (hou : out ++ u = al) (R0 R1 : List D) (hR0 : R0 = List.replicate 255 (.int .u8 0)) (hl1 : R1.length = 255) (hR1 : R1.take z = al.map byteD) (h1 : Loops Try.prog 0 (loopN Try.prog 4 0) ((J4 z l R0 0).as 200) (.exit 0) ((J4 z l R1 255).as 200)) (h2 : Loops Try.prog 0 (loopN Try.prog 4 1) ((K4 l al wn [] false 0).as 200) (.exit 2) ((K4 l al x out kn l.length).as 200)) (k1 : FnOK Try.prog 9 [.d (rsD x), .d (.int .i64 0), .d (.str al), .d (.bool true)] [] (.tup [.d (rsD A), .d (.int .i64 n), .d (.int .u32 0)]) []) (k2 : FnOK Try.prog 11 [.d (rsD A), .d (.int .i64 255)] [] (.tup [.d (rsD B), .d (.str u), .d (.bool true)]) []) (k3 : FnOK Try.prog 17 [.d (rsD B)] [] (.d (.bool true)) []) : FnOK Try.prog 4 ([.d (.int .u8 z), .d (.sl (l.map actD))]) ([]) (.d (.bool true)) ([]) := by
  refine fnOK_wp (p := (D.bool (decide ((↑(List.map actD l).length : Int) > (60 : Int))) = D.bool false) ∧ ((AV.d (D.int IntKind.u8 (↑z : Int)) = AV.d (D.int IntKind.u8 (↑z : Int))) ∧ ((AV.d (D.sl (List.map actD l)) = AV.d (D.sl (List.map actD l))) ∧ ((AV.rptr (1040 : Nat) (1 : Nat) (0 : Nat) (0 : Nat) = AV.rptr (1040 : Nat) (1 : Nat) (0 : Nat) (0 : Nat)) ∧ ((AV.d (D.int IntKind.i64 (0 : Int)) = AV.d (D.int IntKind.i64 (0 : Int))) ∧ ((Ob.row (1 : Nat) [D.int IntKind.u8 (0 : Int), D.int IntKind.u8 (0 : Int), D.int IntKind.u8 (0 : Int), D.int IntKind.u8 (0 : Int), D.int IntKind.u8 (0 : Int), D.int IntKind.u8 (0 : Int), D.int IntKind.u8 (0 : Int), D.int IntKind.u8 (0 : Int), D.int IntKind.u8 (0 : Int), D.int IntKind.u8 (0 : Int), D.int IntKind.u8 (0 : Int), D.int IntKind.u8 (0 : Int), D.int IntKind.u8 (0 : Int), D.int IntKind.u8 (0 : Int), D.int IntKind.u8 (0 : Int), D.int IntKind.u8 (0 : Int), D.int IntKind.u8 (0 : Int), D.int IntKind.u8 (0 : Int), D.int IntKind.u8 (0 : Int), D.int IntKind.u8 (0 : Int), D.int IntKind.u8 (0 : Int), D.int IntKind.u8 (0 : Int), D.int IntKind.u8 (0 : Int), D.int IntKind.u8 (0 : Int), D.int IntKind.u8 (0 : Int), D.int IntKind.u8 (0 : Int), D.int IntKind.u8 (0 : Int), D.int IntKind.u8 (0 : Int), D.int IntKind.u8 (0 : Int), D.int IntKind.u8 (0 : Int), D.int IntKind.u8 (0 : Int), D.int IntKind.u8 (0 : Int), D.int IntKind.u8 (0 : Int), D.int IntKind.u8 (0 : Int), D.int IntKind.u8 (0 : Int), D.int IntKind.u8 (0 : Int), D.int IntKind.u8 (0 : Int), D.int IntKind.u8 (0 : Int), D.int IntKind.u8 (0 : Int), D.int IntKind.u8 (0 : Int), D.int IntKind.u8 (0 : Int), D.int IntKind.u8 (0 : Int), D.int IntKind.u8 (0 : Int), D.int IntKind.u8 (0 : Int), D.int IntKind.u8 (0 : Int), D.int IntKind.u8 (0 : Int), D.int IntKind.u8 (0 : Int), D.int IntKind.u8 (0 : Int), D.int IntKind.u8 (0 : Int), D.int IntKind.u8 (0 : Int), D.int IntKind.u8 (0 : Int), D.int IntKind.u8 (0 : Int), D.int IntKind.u8 (0 : Int), D.int IntKind.u8 (0 : Int), D.int IntKind.u8 (0 : Int), D.int IntKind.u8 (0 : Int), D.int IntKind.u8 (0 : Int), D.int IntKind.u8 (0 : Int), D.int IntKind.u8 (0 : Int), D.int IntKind.u8 (0 : Int), D.int IntKind.u8 (0 : Int), D.int IntKind.u8 (0 : Int), D.int IntKind.u8 (0 : Int), D.int IntKind.u8 (0 : Int), D.int IntKind.u8 (0 : Int), D.int IntKind.u8 (0 : Int), D.int IntKind.u8 (0 : Int), D.int IntKind.u8 (0 : Int), D.int IntKind.u8 (0 : Int), D.int IntKind.u8 (0 : Int), D.int IntKind.u8 (0 : Int), D.int IntKind.u8 (0 : Int), D.int IntKind.u8 (0 : Int), D.int IntKind.u8 (0 : Int), D.int IntKind.u8 (0 : Int), D.int IntKind.u8 (0 : Int), D.int IntKind.u8 (0 : Int), D.int IntKind.u8 (0 : Int), D.int IntKind.u8 (0 : Int), D.int IntKind.u8 (0 : Int), D.int IntKind.u8 (0 : Int), D.int IntKind.u8 (0 : Int), D.int IntKind.u8 (0 : Int), D.int IntKind.u8 (0 : Int), D.int IntKind.u8 (0 : Int), D.int IntKind.u8 (0 : Int), D.int IntKind.u8 (0 : Int), D.int IntKind.u8 (0 : Int), D.int IntKind.u8 (0 : Int), D.int IntKind.u8 (0 : Int), D.int IntKind.u8 (0 : Int), D.int IntKind.u8 (0 : Int), D.int IntKind.u8 (0 : Int), D.int IntKind.u8 (0 : Int), D.int IntKind.u8 (0 : Int), D.int IntKind.u8 (0 : Int), D.int IntKind.u8 (0 : Int), D.int IntKind.u8 (0 : Int), D.int IntKind.u8 (0 : Int), D.int IntKind.u8 (0 : Int), D.int IntKind.u8 (0 : Int), D.int IntKind.u8 (0 : Int), D.int IntKind.u8 (0 : Int), D.int IntKind.u8 (0 : Int), D.int IntKind.u8 (0 : Int), D.int IntKind.u8 (0 : Int), D.int IntKind.u8 (0 : Int), D.int IntKind.u8 (0 : Int), D.int IntKind.u8 (0 : Int), D.int IntKind.u8 (0 : Int), D.int IntKind.u8 (0 : Int), D.int IntKind.u8 (0 : Int), D.int IntKind.u8 (0 : Int), D.int IntKind.u8 (0 : Int), D.int IntKind.u8 (0 : Int), D.int IntKind.u8 (0 : Int), D.int IntKind.u8 (0 : Int), D.int IntKind.u8 (0 : Int), D.int IntKind.u8 (0 : Int), D.int IntKind.u8 (0 : Int), D.int IntKind.u8 (0 : Int), D.int IntKind.u8 (0 : Int), D.int IntKind.u8 (0 : Int), D.int IntKind.u8 (0 : Int), D.int IntKind.u8 (0 : Int), D.int IntKind.u8 (0 : Int), D.int IntKind.u8 (0 : Int), D.int IntKind.u8 (0 : Int), D.int IntKind.u8 (0 : Int), D.int IntKind.u8 (0 : Int), D.int IntKind.u8 (0 : Int), D.int IntKind.u8 (0 : Int), D.int IntKind.u8 (0 : Int), D.int IntKind.u8 (0 : Int), D.int IntKind.u8 (0 : Int), D.int IntKind.u8 (0 : Int), D.int IntKind.u8 (0 : Int), D.int IntKind.u8 (0 : Int), D.int IntKind.u8 (0 : Int), D.int IntKind.u8 (0 : Int), D.int IntKind.u8 (0 : Int), D.int IntKind.u8 (0 : Int), D.int IntKind.u8 (0 : Int), D.int IntKind.u8 (0 : Int), D.int IntKind.u8 (0 : Int), D.int IntKind.u8 (0 : Int), D.int IntKind.u8 (0 : Int), D.int IntKind.u8 (0 : Int), D.int IntKind.u8 (0 : Int), D.int IntKind.u8 (0 : Int), D.int IntKind.u8 (0 : Int), D.int IntKind.u8 (0 : Int), D.int IntKind.u8 (0 : Int), D.int IntKind.u8 (0 : Int), D.int IntKind.u8 (0 : Int), D.int IntKind.u8 (0 : Int), D.int IntKind.u8 (0 : Int), D.int IntKind.u8 (0 : Int), D.int IntKind.u8 (0 : Int), D.int IntKind.u8 (0 : Int), D.int IntKind.u8 (0 : Int), D.int IntKind.u8 (0 : Int), D.int IntKind.u8 (0 : Int), D.int IntKind.u8 (0 : Int), D.int IntKind.u8 (0 : Int), D.int IntKind.u8 (0 : Int), D.int IntKind.u8 (0 : Int), D.int IntKind.u8 (0 : Int), D.int IntKind.u8 (0 : Int), D.int IntKind.u8 (0 : Int), D.int IntKind.u8 (0 : Int), D.int IntKind.u8 (0 : Int), D.int IntKind.u8 (0 : Int), D.int IntKind.u8 (0 : Int), D.int IntKind.u8 (0 : Int), D.int IntKind.u8 (0 : Int), D.int IntKind.u8 (0 : Int), D.int IntKind.u8 (0 : Int), D.int IntKind.u8 (0 : Int), D.int IntKind.u8 (0 : Int), D.int IntKind.u8 (0 : Int), D.int IntKind.u8 (0 : Int), D.int IntKind.u8 (0 : Int), D.int IntKind.u8 (0 : Int), D.int IntKind.u8 (0 : Int), D.int IntKind.u8 (0 : Int), D.int IntKind.u8 (0 : Int), D.int IntKind.u8 (0 : Int), D.int IntKind.u8 (0 : Int), D.int IntKind.u8 (0 : Int), D.int IntKind.u8 (0 : Int), D.int IntKind.u8 (0 : Int), D.int IntKind.u8 (0 : Int), D.int IntKind.u8 (0 : Int), D.int IntKind.u8 (0 : Int), D.int IntKind.u8 (0 : Int), D.int IntKind.u8 (0 : Int), D.int IntKind.u8 (0 : Int), D.int IntKind.u8 (0 : Int), D.int IntKind.u8 (0 : Int), D.int IntKind.u8 (0 : Int), D.int IntKind.u8 (0 : Int), D.int IntKind.u8 (0 : Int), D.int IntKind.u8 (0 : Int), D.int IntKind.u8 (0 : Int), D.int IntKind.u8 (0 : Int), D.int IntKind.u8 (0 : Int), D.int IntKind.u8 (0 : Int), D.int IntKind.u8 (0 : Int), D.int IntKind.u8 (0 : Int), D.int IntKind.u8 (0 : Int), D.int IntKind.u8 (0 : Int), D.int IntKind.u8 (0 : Int), D.int IntKind.u8 (0 : Int), D.int IntKind.u8 (0 : Int), D.int IntKind.u8 (0 : Int), D.int IntKind.u8 (0 : Int), D.int IntKind.u8 (0 : Int), D.int IntKind.u8 (0 : Int), D.int IntKind.u8 (0 : Int), D.int IntKind.u8 (0 : Int), D.int IntKind.u8 (0 : Int), D.int IntKind.u8 (0 : Int), D.int IntKind.u8 (0 : Int), D.int IntKind.u8 (0 : Int), D.int IntKind.u8 (0 : Int), D.int IntKind.u8 (0 : Int), D.int IntKind.u8 (0 : Int), D.int IntKind.u8 (0 : Int), D.int IntKind.u8 (0 : Int), D.int IntKind.u8 (0 : Int), D.int IntKind.u8 (0 : Int), D.int IntKind.u8 (0 : Int), D.int IntKind.u8 (0 : Int), D.int IntKind.u8 (0 : Int), D.int IntKind.u8 (0 : Int), D.int IntKind.u8 (0 : Int), D.int IntKind.u8 (0 : Int), D.int IntKind.u8 (0 : Int), D.int IntKind.u8 (0 : Int), D.int IntKind.u8 (0 : Int), D.int IntKind.u8 (0 : Int), D.int IntKind.u8 (0 : Int), D.int IntKind.u8 (0 : Int), D.int IntKind.u8 (0 : Int), D.int IntKind.u8 (0 : Int), D.int IntKind.u8 (0 : Int), D.int IntKind.u8 (0 : Int), D.int IntKind.u8 (0 : Int), D.int IntKind.u8 (0 : Int), D.int IntKind.u8 (0 : Int), D.int IntKind.u8 (0 : Int), D.int IntKind.u8 (0 : Int), D.int IntKind.u8 (0 : Int), D.int IntKind.u8 (0 : Int)] = Ob.row (1 : Nat) R0) ∧ ((LoopsS Try.prog (0 : Nat) (loopN Try.prog (4 : Nat) (0 : Nat)) (J4 (↑z : Int) l R0 (0 : Nat)) (Exit.exit (0 : Nat)) (J4 (↑z : Int) l R1 (255 : Nat)) (200 : Nat)) ∧ (((0 : Nat) = (0 : Nat)) ∧ (((0 : Nat) = (0 : Nat)) ∧ ((R1.length = (255 : Nat)) ∧ (((0 : Nat) < (255 : Nat)) ∧ (((0 : Int) ≤ (0 : Int) ∧ (0 : Int) ≤ (↑z : Int) ∧ (↑z : Int) ≤ (↑(255 : Nat) : Int)) ∧ ((List.take ((↑z : Int) - (0 : Int)).toNat (List.drop (0 : Nat) R1) = List.map byteD al) ∧ ((FnOK Try.prog (24 : Nat) [] [] (AV.d (D.agg [D.int IntKind.i64 (0 : Int), D.str [], D.sl [], D.int IntKind.i64 (-1 : Int)])) []) ∧ ((AV.d (D.sl (List.map actD l)) = AV.d (D.sl (List.map actD l))) ∧ ((AV.d (D.str al) = AV.d (D.str al)) ∧ ((AV.ptr (1064 : Nat) (0 : Nat) = AV.ptr (1064 : Nat) (0 : Nat)) ∧ ((AV.d (D.str []) = AV.d (D.str [])) ∧ ((AV.d (D.bool false) = AV.d (D.bool false)) ∧ ((AV.d (D.int IntKind.i64 (0 : Int)) = AV.d (D.int IntKind.i64 (0 : Int))) ∧ ((Ob.box [AV.d (D.int IntKind.i64 (0 : Int)), AV.d (D.str []), AV.d (D.sl []), AV.d (D.int IntKind.i64 (-1 : Int))] = Ob.box [AV.d (D.int IntKind.i64 (0 : Int)), AV.d (D.str []), AV.d (D.sl []), AV.d (D.int IntKind.i64 (-1 : Int))]) ∧ ((LoopsS Try.prog (0 : Nat) (loopN Try.prog (4 : Nat) (1 : Nat)) (K4 l al wn [] false (0 : Nat)) (Exit.exit (2 : Nat)) (K4 l al x out kn l.length) (200 : Nat)) ∧ ((FnOK Try.prog (9 : Nat) [AV.d (D.agg [D.int IntKind.i64 x.s.b, D.str x.s.r, D.sl (List.map ptD x.s.p), D.int IntKind.i64 x.e]), AV.d (D.int IntKind.i64 (0 : Int)), AV.d (D.str al), AV.d (D.bool true)] [] (AV.tup [AV.d (D.agg [D.int IntKind.i64 A.s.b, D.str A.s.r, D.sl (List.map ptD A.s.p), D.int IntKind.i64 A.e]), AV.d (D.int IntKind.i64 n), AV.d (D.int IntKind.u32 (0 : Int))]) []) ∧ ((FnOK Try.prog (11 : Nat) [AV.d (D.agg [D.int IntKind.i64 A.s.b, D.str A.s.r, D.sl (List.map ptD A.s.p), D.int IntKind.i64 A.e]), AV.d (D.int IntKind.i64 (255 : Int))] [] (AV.tup [AV.d (D.agg [D.int IntKind.i64 B.s.b, D.str B.s.r, D.sl (List.map ptD B.s.p), D.int IntKind.i64 B.e]), AV.d (D.str u), AV.d (D.bool true)]) []) ∧ ((D.bool true = D.bool true) ∧ (((↑(out.length + u.length) : Int) ≤ (9223372036854775807 : Int)) ∧ ((D.bool (out ++ u == al) = D.bool true) ∧ ((D.bool true = D.bool true) ∧ ((FnOK Try.prog (17 : Nat) [AV.d (D.agg [D.int IntKind.i64 B.s.b, D.str B.s.r, D.sl (List.map ptD B.s.p), D.int IntKind.i64 B.e])] [] (AV.d (D.bool true)) []) ∧ ((D.bool true = D.bool true) ∧ ((FnOK Try.prog (7 : Nat) [] [] (AV.d (D.bool true)) []) ∧ ((AV.d (D.bool true) = AV.d (D.bool true)) ∧ (True))))))))))))))))))))))))))))))))) (h := {chain := true, els := [(5, .arr), (44, .str al)], H := [(1, [(2, .val (.bool false))])], G := [(24, gAns (.d (rsD wn))), (9, gAns (.tup [.d (rsD A), .d (.int .i64 n), .d (.int .u32 0)])), (11, gAns (.tup [.d (rsD B), .d (.str u), .d (.bool true)])), (17, gYes), (7, gYes)]}) (subs := [⟨[], [], J4 z l R0 0, .exit 0, J4 z l R1 255⟩, ⟨[], [], K4 l al wn [] false 0, .exit 2, K4 l al x out kn l.length⟩]) (ws := []) (ρ := []) (by kernel_rfl) ?_
  have k4 := new24
  have hrl := congrArg List.length hou
  rw [List.length_append] at hrl
  simp only [List.length_map, hl1, List.drop_zero, hou, Int.sub_zero, Int.toNat_natCast]
  repeat' (first | with_reducible exact True.intro | with_reducible refine And.intro ?_ ?_ | with_reducible refine condP_dec (fun _ => ?_) (fun _ => ?_) | with_reducible refine condP_eq (fun _ => ?_) (fun _ => ?_) | with_reducible refine condP_ne (fun _ => ?_) (fun _ => ?_) | with_reducible refine condP_not (condP_dec (fun _ => ?_) (fun _ => ?_)) | with_reducible refine condP_not (condP_eq (fun _ => ?_) (fun _ => ?_)) | with_reducible refine condP_not (condP_intro (fun _ => ?_) (fun _ => ?_)) | with_reducible refine condP_intro (fun _ => ?_) (fun _ => ?_))
  all_goals first | exact h1 | exact h2 | exact k1 | exact k2 | exact k3 | exact k4 | exact aw7 | exact hR1 | rfl | omega | exact dno (by omega) | (refine congrArg D.bool ?_; simp; done) | (rw [hR0]; rfl) | (rw [hR0]; done) | skip

structure P4 where
  x : Rs
  o : List UInt8
  c : List Bool
  k : Bool
def fr4 (z : Nat) (y : Ac) : Nat := min y.a.toNat z
def to4 (z : Nat) (y : Ac) : Nat := min (fr4 z y + y.n.toNat) z
def A4 (t : List UInt8) (z : Nat) (p : P4) (y : Ac) : Rs × Int × Int := sPut p.x (fr4 z y) (pc t (fr4 z y) (to4 z y - fr4 z y : Nat)) (to4 z y == z)
def p4 (t : List UInt8) (z : Nat) (p : P4) (y : Ac) : P4 :=
  ⟨(sRead (A4 t z p y).1 y.r).1, p.o ++ (sRead (A4 t z p y).1 y.r).2.1, cmJ p.c (fr4 z y) (to4 z y - fr4 z y), p.k || (to4 z y == z)⟩
def z4 : P4 := ⟨wn, [], List.replicate 512 false, false⟩
theorem fr4_le (z : Nat) (y : Ac) : fr4 z y ≤ to4 z y ∧ to4 z y ≤ z := by unfold to4 fr4; omega
theorem A4_ok {t : List UInt8} {z : Nat} (ht : t.length = 512) (hz : z ≤ 255) {p : P4} (h : QI t z p.x p.o p.c p.k) (y : Ac) (hh : rHeld p.x.s < 90000) :
    QI t z (A4 t z p y).1 p.o (cmJ p.c (fr4 z y) (to4 z y - fr4 z y)) (p.k || (to4 z y == z)) ∧ (A4 t z p y).2.2 = 0 ∧ rHeld (A4 t z p y).1.s ≤ rHeld p.x.s + 255 := by
  have h1 := fr4_le z y
  obtain ⟨e, q⟩ := h.put ht hz (a := fr4 z y) (n := to4 z y - fr4 z y) (by omega) (to4 z y == z) (fun g => by have := eq_of_beq g; omega) (by omega)
  unfold A4
  rw [e]
  refine ⟨q, rfl, ?_⟩
  have h2 := (rHeld_put h.p.ok (fr4 z y) (by omega) (by omega) (pc t (fr4 z y) (to4 z y - fr4 z y : Nat))).1
  rw [pc_len (by omega) (by omega) (by omega)] at h2
  show rHeld (rPut _ _ _).1 ≤ _
  omega
theorem p4_ok {t : List UInt8} {z : Nat} (ht : t.length = 512) (hz : z ≤ 255) {p : P4} (h : QI t z p.x p.o p.c p.k) (y : Ac) (hh : rHeld p.x.s < 90000) :
    QI t z (p4 t z p y).x (p4 t z p y).o (p4 t z p y).c (p4 t z p y).k ∧ rHeld (p4 t z p y).x.s ≤ rHeld p.x.s + 255 := by
  obtain ⟨q, -, q2⟩ := A4_ok ht hz h y hh
  refine ⟨q.read ht y.r, ?_⟩
  have := (rRead_ok q.p.ok y.r).2
  show rHeld (rRead (A4 t z p y).1.s y.r).1 ≤ _
  omega
theorem piece {t : List UInt8} {fr to z : Nat} (h1 : fr ≤ to) (h2 : to ≤ z) : ((t.take z).take to).drop fr = pc t fr (to - fr : Nat) := by
  unfold pc
  rw [List.take_take, show min to z = to by omega, show ((fr : Int) + ((to - fr : Nat) : Int)).toNat = to by omega, Int.toNat_natCast]
theorem qi_rr {t : List UInt8} {z : Nat} {x : Rs} {out : List UInt8} {cm : List Bool} {kn : Bool} (h : QI t z x out cm kn) (hz : z ≤ 255) (hh : rHeld x.s < 90000) : Rr x ∧ x.s.p.length < 700000 := by
  have h1 := ok_len h.p.ok (by omega)
  have h2 := len_sumD (l := x.s.p) (fun y hy => (h.p.ok.p y hy).1)
  have h3 := rHeld_def x.s
  refine ⟨⟨ok_rb h.p.ok (by omega), ?_⟩, by omega⟩
  have he := h.e
  split at he <;> omega
theorem rasmStream_ok (x0 : D) (s0 : ∃ ds, CK.hasL [.int .u8] ds ∧ (if false then x0 = .agg ds else ds = [x0])) (x1 : D) (s1 : ∃ ds, CK.hasL [.sl true [.int .u8, .int .u8, .int .u8]] ds ∧ (if false then x1 = .agg ds else ds = [x1])) :
    FnOK Try.prog 4 [.d x0, .d x1] [] (.d (.bool true)) [] := by
  have act : ∀ y, (∃ cs, CK.hasL [.int .u8, .int .u8, .int .u8] cs ∧ (if true = true then y = .agg cs else cs = [y])) → ∃ x : Ac, y = actD x ∧ x.ok := fun y h => by
    obtain ⟨ds, rfl, h0⟩ := ckA h
    obtain ⟨d1, r1, rfl, g1, h1⟩ := hasL_cons h0
    obtain ⟨v1, rfl, a1, b1⟩ := has_u8 g1
    obtain ⟨d2, r2, rfl, g2, h2⟩ := hasL_cons h1
    obtain ⟨v2, rfl, a2, b2⟩ := has_u8 g2
    obtain ⟨d3, r3, rfl, g3, h3⟩ := hasL_cons h2
    obtain ⟨v3, rfl, a3, b3⟩ := has_u8 g3
    obtain rfl := hasL_nil h3
    exact ⟨⟨v1, v2, v3⟩, rfl, ⟨a1, b1⟩, ⟨a2, b2⟩, ⟨a3, b3⟩⟩
  obtain ⟨zi, rfl, z0, z1⟩ := has_u8 (ck1 s0)
  obtain ⟨l, rfl, -, hK⟩ := has_slOf (α := Ac) actD (fun x => x.ok) (ck1 s1) act
  obtain ⟨z, rfl⟩ : ∃ z : Nat, zi = z := ⟨zi.toNat, by omega⟩
  have hz : z ≤ 255 := by omega
  by_cases hl : l.length ≤ 60
  · have ht := txL_len 3
    generalize htx : txL 3 = t at ht
    have hal : (t.take z).length = z := by rw [List.length_take]; omega
    have inv : ∀ j, j ≤ l.length → (QI t z ((l.take j).foldl (p4 t z) z4).x ((l.take j).foldl (p4 t z) z4).o ((l.take j).foldl (p4 t z) z4).c ((l.take j).foldl (p4 t z) z4).k) ∧ rHeld ((l.take j).foldl (p4 t z) z4).x.s ≤ 255 * j := by
      intro j
      induction j with
      | zero => intro _; exact ⟨QI.zero ht z, Nat.le_refl _⟩
      | succ j ih =>
        intro hj
        obtain ⟨i1, i2⟩ := ih (by omega)
        have hn := get_of (l := l) (j := j) (by omega)
        rw [take_snoc hn, List.foldl_append]
        obtain ⟨k1, k2⟩ := p4_ok ht hz i1 (l[j]'(by omega)) (by omega)
        refine ⟨k1, ?_⟩
        show rHeld (p4 t z _ _).x.s ≤ _
        omega
    have hL : Loops Try.prog 0 (loopN Try.prog 4 1) ((K4 l (t.take z) wn [] false 0).as 200) (.exit 2) ((K4 l (t.take z) ((l.take l.length).foldl (p4 t z) z4).x ((l.take l.length).foldl (p4 t z) z4).o ((l.take l.length).foldl (p4 t z) z4).k l.length).as 200) := by
      refine loops_n (I := fun j => (K4 l (t.take z) ((l.take j).foldl (p4 t z) z4).x ((l.take j).foldl (p4 t z) z4).o ((l.take j).foldl (p4 t z) z4).k j).as 200) (by simp) l.length 0 (by omega) (fun j _ hj => ?_) (q4 l _ _ _ _)
      obtain ⟨i1, i2⟩ := inv j (by omega)
      have hn := get_of hj
      have hx := hK _ (get_mem hn)
      have xa := hx.a
      have xn := hx.n
      show Runs _ _ _ _ _ ((K4 l (t.take z) ((l.take (j + 1)).foldl (p4 t z) z4).x ((l.take (j + 1)).foldl (p4 t z) z4).o ((l.take (j + 1)).foldl (p4 t z) z4).k (j + 1)).as _)
      rw [take_snoc hn, List.foldl_append]
      show Runs _ _ _ _ _ ((K4 l (t.take z) (p4 t z _ _).x (p4 t z _ _).o (p4 t z _ _).k (j + 1)).as _)
      generalize (l.take j).foldl (p4 t z) z4 = p at *
      generalize l[j]'(by omega) = y at *
      have hrf := fr4_le z y
      obtain ⟨a1, a2, a3⟩ := A4_ok ht hz i1 y (by omega)
      obtain ⟨b1, b2⟩ := p4_ok ht hz i1 y (by omega)
      obtain ⟨r1, r2⟩ := qi_rr i1 hz (by omega)
      obtain ⟨r3, r4⟩ := qi_rr a1 hz (by omega)
      obtain ⟨r5, r6⟩ := qi_rr b1 hz (by omega)
      have hpl := pc_len (t := t) (a := (fr4 z y : Int)) (n := ((to4 z y - fr4 z y : Nat) : Int)) (by omega) (by omega) (by omega)
      have c1 := put9 r1 r2 (fr4 z y) (by omega) (pc t (fr4 z y) (to4 z y - fr4 z y : Nat)) (by omega) (to4 z y == z)
      rw [show sPut p.x (fr4 z y) (pc t (fr4 z y) (to4 z y - fr4 z y : Nat)) (to4 z y == z) = A4 t z p y from rfl, a2, ← piece hrf.1 hrf.2] at c1
      have c2 := sread11 r3 (by omega) y.r
      have c3 := chk13 r5 (by omega)
      have c4 := whole15 _ c3
      rw [b1.chk (by omega)] at c3
      have c5 := put9 r5 r6 z (by omega) [63] (by show rHeld (p4 t z p y).x.s + 1 < _; omega) false
      have hen : (sRead (A4 t z p y).1 y.r).2.2 = ((p.k || (to4 z y == z)) && decide ((p.o ++ (sRead (A4 t z p y).1 y.r).2.1).length = z)) := b1.ended (by omega)
      have hol : (p4 t z p y).o.length ≤ z := b1.outl
      have hot : (p4 t z p y).o = (t.take z).take (p4 t z p y).o.length := by
        have := b1.p.oe
        rw [List.take_take, show min (p4 t z p y).o.length z = (p4 t z p y).o.length by omega]
        exact this
      have hw := b1.whole
      have hov := fun g => b1.over (by omega) g [63] (by simp) (by simp)
      have e1 : min y.a (z : Int) = (fr4 z y : Nat) := by unfold fr4; omega
      have e2 : min ((fr4 z y : Nat) + y.n) (z : Int) = (to4 z y : Nat) := by unfold to4; omega
      have ek : (p4 t z p y).k = (p.k || (to4 z y == z)) := rfl
      rw [ek] at hw hov ⊢
      cases hf : (to4 z y == z)
      · have hft : to4 z y ≠ z := by simpa using hf
        rw [hf] at c1 hen hw hov
        cases hk : p.k
        · rw [hk] at hw hen
          have hw2 : sWhole (p4 t z p y).x = false := by
            cases g : sWhole (p4 t z p y).x
            · rfl
            · have := hw g; cases this
          exact r4d l hl (t.take z) z hal hz p.x _ _ _ p.o _ _ j y hx hn (fr4 z y) (to4 z y) e1 e2 _ 0 _ _ _ _ rfl hol hot c1 c2 c3 c4 hft (by rw [hen]; rfl) hw2 c5
        · rw [hk] at hov hen
          rw [hov rfl] at c5
          exact r4b l hl (t.take z) z hal hz p.x _ _ _ p.o _ _ j y hx hn (fr4 z y) (to4 z y) e1 e2 _ 0 0 0 _ _ rfl hol hot c1 c2 c3 c4 hft (by rw [hen]; rfl) c5
      · have hft : to4 z y = z := by simpa using hf
        rw [hf] at c1 hen hov
        rw [Bool.or_true] at hov hen ⊢
        rw [hov rfl] at c5
        cases hk : p.k
        · exact r4c l hl (t.take z) z hal hz p.x _ _ _ p.o _ _ j y hx hn (fr4 z y) (to4 z y) e1 e2 _ 0 0 0 _ _ rfl hol hot c1 c2 c3 c4 hft (by rw [hen]; rfl) c5
        · exact r4a l hl (t.take z) z hal hz p.x _ _ _ p.o _ _ j y hx hn (fr4 z y) (to4 z y) e1 e2 _ 0 0 0 _ _ rfl hol hot c1 c2 c3 c4 hft (by rw [hen]; rfl) c5
    obtain ⟨i1, i2⟩ := inv l.length (Nat.le_refl _)
    generalize (l.take l.length).foldl (p4 t z) z4 = p at *
    obtain ⟨e, q⟩ := i1.put ht hz (a := 0) (n := z) (by omega) true (fun _ => by omega) (by omega)
    have hpc : pc t ((0 : Nat) : Int) (z : Int) = t.take z := by unfold pc; simp
    rw [hpc] at e q
    rw [show ((0 : Nat) : Int) = 0 from rfl] at e q
    simp only [if_true] at e q
    have hh := (rHeld_put i1.p.ok 0 (by omega) (by omega) (t.take z)).1
    rw [hal] at hh
    obtain ⟨r1, r2⟩ := qi_rr i1 hz (by omega)
    obtain ⟨r3, r4⟩ := qi_rr q hz (by show rHeld (rPut _ _ _).1 < _; exact Nat.lt_of_le_of_lt hh (by omega))
    have q2 := q.read ht 255
    have hb := q.all ht hz (fun k hk => by rw [cmJ_get, if_pos ⟨by omega, by have := i1.p.cl; omega⟩])
    have ho := q.p.ol
    have hg := q.p.glue _ (Nat.le_refl _) ht
    have hrl : (rPut p.x.s 0 (t.take z)).1.r.length ≤ 255 := by
      have hS : rS (rPut p.x.s 0 (t.take z)).1 = (rPut p.x.s 0 (t.take z)).1.b - (rPut p.x.s 0 (t.take z)).1.r.length := rfl
      have h5 := q.p.b
      simp only at hb ho h5
      have hb' : (rPut p.x.s 0 (t.take z)).1.b = z := hb
      have h5' : 0 ≤ rS (rPut p.x.s 0 (t.take z)).1 := h5.1
      omega
    have hrd : (sRead ⟨(rPut p.x.s 0 (t.take z)).1, (z : Int)⟩ 255).2.1 = (rPut p.x.s 0 (t.take z)).1.r := by
      show (rRead _ 255).2 = _
      unfold rRead
      rw [if_neg (by rw [ok_iff.2 q.p.ok]; simp)]
      exact List.take_of_length_le (by show _ ≤ 255; exact hrl)
    have hou : p.o ++ (sRead ⟨(rPut p.x.s 0 (t.take z)).1, (z : Int)⟩ 255).2.1 = t.take z := by
      rw [hrd]
      have hg' : p.o ++ ((rPut p.x.s 0 (t.take z)).1.r).take (rPut p.x.s 0 (t.take z)).1.r.length = t.take (p.o.length + (rPut p.x.s 0 (t.take z)).1.r.length) := hg
      rw [List.take_length] at hg'
      rw [hg']
      have hS : rS (rPut p.x.s 0 (t.take z)).1 = (rPut p.x.s 0 (t.take z)).1.b - (rPut p.x.s 0 (t.take z)).1.r.length := rfl
      have hb' : (rPut p.x.s 0 (t.take z)).1.b = z := hb
      have ho' : (p.o.length : Int) = rS (rPut p.x.s 0 (t.take z)).1 := ho
      refine congrArg (fun n => t.take n) ?_
      omega
    have c1 := put9 r1 r2 0 (by omega) (t.take z) (by omega) true
    rw [e] at c1
    have c2 := sread11 r3 (by omega) 255
    have hq2 := q2.ended (by omega)
    have hol : (p.o ++ (sRead ⟨(rPut p.x.s 0 (t.take z)).1, (z : Int)⟩ 255).2.1).length = z := by rw [hou]; exact hal
    have hend : sEnded (sRead ⟨(rPut p.x.s 0 (t.take z)).1, (z : Int)⟩ 255).1 = true := by
      refine hq2.trans ?_
      rw [Bool.or_true, Bool.true_and]
      exact decide_eq_true hol
    have r5 := qi_rr q2 hz (by have := (rRead_ok q.p.ok 255).2; exact Nat.lt_of_le_of_lt this (Nat.lt_of_le_of_lt hh (by omega)))
    have c3 := ended17' r5.1 (by have := r5.2; omega)
    have e3 : (sRead ⟨(rPut p.x.s 0 (t.take z)).1, (z : Int)⟩ 255).2.2 = true := hend
    rw [e3] at c2
    rw [hend] at c3
    have h6 := l4 z l
    exact str4 z hz l hl (t.take z) hal p.x _ _ _ p.o _ p.k hou _ _ aR_zero (aR_len 255) (by rw [aR_end hz, htx]) h6 hL c1 c2 c3
  · exact str4n _ l hl
end Go.Proofs.Ytfacpafkldmkcaa
