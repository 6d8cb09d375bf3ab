/-
laws 12: awake; what is taken and told. No condition beyond the statements' own.
-/
import Derived.Test.YtmnglolholdmaaaS17
set_option linter.unusedSimpArgs false
set_option linter.unusedVariables false
namespace Go.Proofs.Ytmnglolholdmaaa
open Sx Go.RowKit

def w0 : Rq := ⟨0, [], []⟩
def wa : Rq := ⟨0, [], [⟨2, [99, 100]⟩]⟩
def wb : Rq := ⟨4, [97, 98, 99, 100], []⟩
def wc : Rq := ⟨4, [100], []⟩
def wz : Rq := ⟨0, [], [⟨0, []⟩]⟩
theorem small_rb (s : Rq) (h : decide (s.b = 0 ∨ s.b = 4) = true) (h2 : s.r.length < 10) (h3 : s.p.length < 10) (h4 : ∀ x ∈ s.p, (0 ≤ x.a ∧ x.a ≤ 4) ∧ x.d.length < 10) : Rb s := by
  have h := of_decide_eq_true h
  exact ⟨by omega, by omega, by omega, fun x hx => by have := h4 x hx; exact ⟨by omega, by omega⟩⟩
set_option maxRecDepth 100000 in
set_option maxHeartbeats 1000000 in
theorem aw9  : FnOK Try.prog 9 ([]) ([]) (.d (.bool true)) ([]) := by
  refine fnOK_wp (p := (FnOK Try.prog (30 : Nat) [] [] (AV.d (D.agg [D.int IntKind.i64 (0 : Int), D.str [], D.sl []])) []) ∧ ((FnOK Try.prog (11 : Nat) [AV.d (D.agg [D.int IntKind.i64 (0 : Int), D.str [], D.sl []]), AV.d (D.int IntKind.i64 (2 : Int)), AV.d (D.str [(99 : UInt8), (100 : UInt8)])] [] (AV.tup [AV.d (D.agg [D.int IntKind.i64 (0 : Int), D.str [], D.sl [D.agg [D.int IntKind.i64 (2 : Int), D.str [(99 : UInt8), (100 : UInt8)]]]]), AV.d (D.int IntKind.i64 (2 : Int))]) []) ∧ ((FnOK Try.prog (11 : Nat) [AV.d (D.agg [D.int IntKind.i64 (0 : Int), D.str [], D.sl [D.agg [D.int IntKind.i64 (2 : Int), D.str [(99 : UInt8), (100 : UInt8)]]]]), AV.d (D.int IntKind.i64 (0 : Int)), AV.d (D.str [(97 : UInt8), (98 : UInt8), (88 : UInt8)])] [] (AV.tup [AV.d (D.agg [D.int IntKind.i64 (4 : Int), D.str [(97 : UInt8), (98 : UInt8), (99 : UInt8), (100 : UInt8)], D.sl []]), AV.d (D.int IntKind.i64 (2 : Int))]) []) ∧ ((FnOK Try.prog (13 : Nat) [AV.d (D.agg [D.int IntKind.i64 (4 : Int), D.str [(97 : UInt8), (98 : UInt8), (99 : UInt8), (100 : UInt8)], D.sl []]), AV.d (D.int IntKind.i64 (3 : Int))] [] (AV.tup [AV.d (D.agg [D.int IntKind.i64 (4 : Int), D.str [(100 : UInt8)], D.sl []]), AV.d (D.str [(97 : UInt8), (98 : UInt8), (99 : UInt8)])]) []) ∧ ((D.bool true = D.bool true) ∧ ((D.bool true = D.bool true) ∧ ((D.bool true = D.bool true) ∧ (((0 : Int) ≤ (0 : Int)) ∧ ((some (D.agg [D.int IntKind.i64 (2 : Int), D.str [(99 : UInt8), (100 : UInt8)]]) = some (D.agg [D.int IntKind.i64 (2 : Int), D.str [(99 : UInt8), (100 : UInt8)]])) ∧ ((D.bool true = D.bool true) ∧ ((FnOK Try.prog (22 : Nat) [AV.d (D.agg [D.int IntKind.i64 (0 : Int), D.str [], D.sl [D.agg [D.int IntKind.i64 (2 : Int), D.str [(99 : UInt8), (100 : UInt8)]]]])] [] (AV.d (D.sl [D.agg [D.int IntKind.i64 (2 : Int), D.int IntKind.i64 (4 : Int)]])) []) ∧ ((FnOK Try.prog (21 : Nat) [AV.d (D.sl [D.agg [D.int IntKind.i64 (2 : Int), D.int IntKind.i64 (4 : Int)]])] [] (AV.d (D.sl [D.agg [D.int IntKind.i64 (2 : Int), D.int IntKind.i64 (4 : Int)]])) []) ∧ ((FnOK Try.prog (20 : Nat) [AV.d (D.sl [D.agg [D.int IntKind.i64 (2 : Int), D.int IntKind.i64 (4 : Int)]]), AV.d (D.sl [D.agg [D.int IntKind.i64 (2 : Int), D.int IntKind.i64 (4 : Int)]])] [] (AV.d (D.bool true)) []) ∧ ((D.bool true = D.bool true) ∧ ((D.bool true = D.bool true) ∧ ((D.bool true = D.bool true) ∧ ((D.bool true = D.bool true) ∧ ((FnOK Try.prog (26 : Nat) [AV.d (D.agg [D.int IntKind.i64 (4 : Int), D.str [(100 : UInt8)], D.sl []])] [] (AV.d (D.int IntKind.i64 (4099 : Int))) []) ∧ ((D.bool true = D.bool true) ∧ ((FnOK Try.prog (28 : Nat) [AV.d (D.agg [D.int IntKind.i64 (4 : Int), D.str [(100 : UInt8)], D.sl []])] [] (AV.d (D.int IntKind.i64 (1 : Int))) []) ∧ ((D.bool true = D.bool true) ∧ ((FnOK Try.prog (17 : Nat) [AV.d (D.agg [D.int IntKind.i64 (4 : Int), D.str [(100 : UInt8)], D.sl []])] [] (AV.d (D.int IntKind.i64 (0 : Int))) []) ∧ ((D.bool true = D.bool true) ∧ ((FnOK Try.prog (24 : Nat) [AV.d (D.agg [D.int IntKind.i64 (0 : Int), D.str [], D.sl [D.agg [D.int IntKind.i64 (2 : Int), D.str [(99 : UInt8), (100 : UInt8)]]]]), AV.d (D.int IntKind.i64 (0 : Int))] [] (AV.d (D.sl [])) []) ∧ ((D.bool true = D.bool true) ∧ ((FnOK Try.prog (19 : Nat) [AV.d (D.agg [D.int IntKind.i64 (0 : Int), D.str [], D.sl [D.agg [D.int IntKind.i64 (2 : Int), D.str [(99 : UInt8), (100 : UInt8)]]]]), AV.d (D.agg [D.int IntKind.i64 (0 : Int), D.str [], D.sl [D.agg [D.int IntKind.i64 (2 : Int), D.str [(99 : UInt8), (100 : UInt8)]]]])] [] (AV.d (D.bool true)) []) ∧ ((D.bool true = D.bool true) ∧ ((FnOK Try.prog (19 : Nat) [AV.d (D.agg [D.int IntKind.i64 (0 : Int), D.str [], D.sl [D.agg [D.int IntKind.i64 (2 : Int), D.str [(99 : UInt8), (100 : UInt8)]]]]), AV.d (D.agg [D.int IntKind.i64 (4 : Int), D.str [(97 : UInt8), (98 : UInt8), (99 : UInt8), (100 : UInt8)], D.sl []])] [] (AV.d (D.bool false)) []) ∧ ((D.bool true = D.bool true) ∧ ((FnOK Try.prog (17 : Nat) [AV.d (D.agg [D.int IntKind.i64 (0 : Int), D.str [], D.sl [D.agg [D.int IntKind.i64 (0 : Int), D.str []]]])] [] (AV.d (D.int IntKind.i64 (10 : Int))) []) ∧ ((AV.d (D.bool true) = AV.d (D.bool true)) ∧ (True)))))))))))))))))))))))))))))))) (h := {chain := true, els := [(36, .el (ptD ⟨2, [99, 100]⟩))], H := [(1, [(1, .call [] (.tup [.d (rqD wa), .d (.int .i64 2)]) [])]), (2, [(1, .call [] (.tup [.d (rqD wb), .d (.int .i64 2)]) [])]), (3, [(1, .call [] (.tup [.d (rqD wc), .d (.str [97, 98, 99])]) [])]), (4, [(22, .call [] (.d (.sl ([(2, 4)].map ivD))) []), (23, .call [] (.d (.sl ([(2, 4)].map ivD))) []), (26, .call [] (.d (.bool true)) []), (44, .call [] (.d (.int .i64 4099)) []), (49, .call [] (.d (.int .i64 1)) []), (54, .call [] (.d (.int .i64 0)) []), (59, .call [] (.d (.sl (([] : List Iv).map ivD))) []), (66, .call [] (.d (.bool true)) []), (71, .call [] (.d (.bool false)) []), (78, .call [] (.d (.int .i64 10)) [])])], G := [(30, gAns (.d (rqD w0)))]}) (subs := []) (ws := []) (ρ := []) (by kernel_rfl) ?_
  have r0 : Rb w0 := small_rb _ (by decide) (by decide) (by decide) (by decide)
  have ra : Rb wa := small_rb _ (by decide) (by decide) (by decide) (by decide)
  have rb : Rb wb := small_rb _ (by decide) (by decide) (by decide) (by decide)
  have rc : Rb wc := small_rb _ (by decide) (by decide) (by decide) (by decide)
  have rz : Rb wz := small_rb _ (by decide) (by decide) (by decide) (by decide)
  have k1 := put11 w0 r0 (by decide) 2 [99, 100] (by decide)
  rw [show rPut w0 2 [99, 100] = (wa, 2) by decide +kernel] at k1
  have k2 := put11 wa ra (by decide) 0 [97, 98, 88] (by decide)
  rw [show rPut wa 0 [97, 98, 88] = (wb, 2) by decide +kernel] at k2
  have k3 := read13 wb rb (by decide) 3
  rw [show rRead wb 3 = (wc, [97, 98, 99]) by decide +kernel] at k3
  have k4 := came22 wa ra
  rw [show rCame wa = [(2, 4)] by decide +kernel] at k4
  have k5 := back21 [(2, 4)] (by decide)
  have k6 := ivs20 [(2, 4)] [(2, 4)] (by decide)
  rw [show decide ([(2, 4)] = [((2 : Int), (4 : Int))]) = true by decide] at k6
  have k7 := lim26 wc (by decide) (by decide) (by decide)
  rw [show rLim wc = 4099 by decide +kernel] at k7
  have k8 := held28 wc (by decide) (by decide)
  have k9 := chk17 wc rc
  rw [show rChk wc = 0 by decide +kernel] at k9
  have ka := blk24 wa ra 0
  rw [show rBlk wa 0 = [] by decide +kernel] at ka
  have kb := same19 wa wa (by decide)
  rw [show decide (wa = wa) = true by decide] at kb
  have kc := same19 wa wb (by decide)
  rw [show decide (wa = wb) = false by decide] at kc
  have kd := chk17 wz rz
  rw [show rChk wz = 10 by decide +kernel] at kd
  have ke := new30
  repeat' (first | with_reducible exact True.intro | with_reducible refine And.intro ?_ ?_ | with_reducible refine condP_dec (fun _ => ?_) (fun _ => ?_) | with_reducible refine condP_eq (fun _ => ?_) (fun _ => ?_) | with_reducible refine condP_ne (fun _ => ?_) (fun _ => ?_) | with_reducible refine condP_not (condP_dec (fun _ => ?_) (fun _ => ?_)) | with_reducible refine condP_not (condP_eq (fun _ => ?_) (fun _ => ?_)) | with_reducible refine condP_not (condP_intro (fun _ => ?_) (fun _ => ?_)) | with_reducible refine condP_intro (fun _ => ?_) (fun _ => ?_))
  all_goals first | exact k1 | exact k2 | exact k3 | exact k4 | exact k5 | exact k6 | exact k7 | exact k8 | exact k9 | exact ka | exact kb | exact kc | exact kd | exact ke | rfl | omega | skip

end Go.Proofs.Ytmnglolholdmaaa
