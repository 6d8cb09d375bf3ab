/-
laws 06: awake; what changes. No condition beyond the statements' own.
-/
import Derived.Test.YtkfiojolgkfbcaaS13
set_option linter.unusedSimpArgs false
set_option linter.unusedVariables false
namespace Go.Proofs.Ytkfiojolgkfbcaa
open Sx Go.RowKit

theorem rAdd_len (s : List Iv) (x : Iv) : (rAdd s x).length ≤ 2 * s.length + 1 := by
  unfold rAdd
  split
  · omega
  · have h := fold_len x s ([], false)
    have h' : (pAddF s x).1.length ≤ 2 * s.length := by simpa [pAddF] using h
    unfold pAdd
    split
    · omega
    · have := pPut_len (pAddF s x).1 x
      omega
theorem rCut_len (s : List Iv) (x : Iv) : (rCut s x).length ≤ s.length + 1 := by
  cases hn : nop s x
  · obtain ⟨h1, h2, h3⟩ := nop_no hn
    exact (cut_ok (iChk_iff.1 h3) h1 h2).2.2
  · have e : rCut s x = s := by unfold rCut; rw [if_pos hn]
    rw [e]; omega
theorem rGaps_len (s : List Iv) (x : Iv) : (rGaps s x).length ≤ s.length + 1 := by
  unfold rGaps
  cases hn : nop s x
  · rw [if_neg (by simp)]
    obtain ⟨h1, h2, h3⟩ := nop_no hn
    have ok := iChk_iff.1 h3
    have := (gaps_fold (s := s) (fun y hy => ok_may ok hy) (one_ok h1 h2)).2.2
    simp only [List.length_cons, List.length_nil] at this
    omega
  · rw [if_pos rfl]; simp
theorem rMeet_len (a b : List Iv) : (rMeet a b).length ≤ a.length * b.length := by
  unfold rMeet
  split
  · simp
  · have := pMeet_len b a []
    simp only [List.length_nil] at this
    show (a.foldl (fun m x => b.foldl (stM x) m) []).length ≤ _
    omega
def ws : List Iv := [(1, 5)]
def wt : List Iv := [(1, 2), (4, 5)]
def wg : List Iv := [(0, 1), (2, 4), (5, 9)]
set_option maxRecDepth 100000 in
set_option maxHeartbeats 1000000 in
theorem aw7  : FnOK Try.prog 7 ([]) ([]) (.d (.bool true)) ([]) := by
  refine fnOK_wp (p := (FnOK Try.prog (11 : Nat) [AV.d (D.sl []), AV.d (D.agg [D.int IntKind.i64 (1 : Int), D.int IntKind.i64 (3 : Int)])] [] (AV.d (D.sl [D.agg [D.int IntKind.i64 (1 : Int), D.int IntKind.i64 (3 : Int)]])) []) ∧ ((FnOK Try.prog (11 : Nat) [AV.d (D.sl [D.agg [D.int IntKind.i64 (1 : Int), D.int IntKind.i64 (3 : Int)]]), AV.d (D.agg [D.int IntKind.i64 (3 : Int), D.int IntKind.i64 (5 : Int)])] [] (AV.d (D.sl [D.agg [D.int IntKind.i64 (1 : Int), D.int IntKind.i64 (5 : Int)]])) []) ∧ ((FnOK Try.prog (13 : Nat) [AV.d (D.sl [D.agg [D.int IntKind.i64 (1 : Int), D.int IntKind.i64 (5 : Int)]]), AV.d (D.agg [D.int IntKind.i64 (2 : Int), D.int IntKind.i64 (4 : Int)])] [] (AV.d (D.sl [D.agg [D.int IntKind.i64 (1 : Int), D.int IntKind.i64 (2 : Int)], D.agg [D.int IntKind.i64 (4 : Int), D.int IntKind.i64 (5 : Int)]])) []) ∧ ((FnOK Try.prog (15 : Nat) [AV.d (D.sl [D.agg [D.int IntKind.i64 (1 : Int), D.int IntKind.i64 (2 : Int)], D.agg [D.int IntKind.i64 (4 : Int), D.int IntKind.i64 (5 : Int)]]), AV.d (D.agg [D.int IntKind.i64 (0 : Int), D.int IntKind.i64 (9 : Int)])] [] (AV.d (D.sl [D.agg [D.int IntKind.i64 (0 : Int), D.int IntKind.i64 (1 : Int)], D.agg [D.int IntKind.i64 (2 : Int), D.int IntKind.i64 (4 : Int)], D.agg [D.int IntKind.i64 (5 : Int), D.int IntKind.i64 (9 : Int)]])) []) ∧ ((D.bool true = D.bool true) ∧ (((0 : Int) ≤ (0 : Int)) ∧ ((some (D.agg [D.int IntKind.i64 (1 : Int), D.int IntKind.i64 (5 : Int)]) = some (D.agg [D.int IntKind.i64 (1 : Int), D.int IntKind.i64 (5 : Int)])) ∧ ((D.bool true = D.bool true) ∧ ((D.bool true = D.bool true) ∧ (((0 : Int) ≤ (1 : Int)) ∧ ((some (D.agg [D.int IntKind.i64 (4 : Int), D.int IntKind.i64 (5 : Int)]) = some (D.agg [D.int IntKind.i64 (4 : Int), D.int IntKind.i64 (5 : Int)])) ∧ ((D.bool true = D.bool true) ∧ ((D.bool true = D.bool true) ∧ (((0 : Int) ≤ (2 : Int)) ∧ ((some (D.agg [D.int IntKind.i64 (5 : Int), D.int IntKind.i64 (9 : Int)]) = some (D.agg [D.int IntKind.i64 (5 : Int), D.int IntKind.i64 (9 : Int)])) ∧ ((D.bool true = D.bool true) ∧ ((FnOK Try.prog (24 : Nat) [AV.d (D.sl [D.agg [D.int IntKind.i64 (1 : Int), D.int IntKind.i64 (2 : Int)], D.agg [D.int IntKind.i64 (4 : Int), D.int IntKind.i64 (5 : Int)]]), AV.d (D.int IntKind.i64 (4 : Int))] [] (AV.d (D.bool true)) []) ∧ ((D.bool true = D.bool true) ∧ ((FnOK Try.prog (24 : Nat) [AV.d (D.sl [D.agg [D.int IntKind.i64 (1 : Int), D.int IntKind.i64 (2 : Int)], D.agg [D.int IntKind.i64 (4 : Int), D.int IntKind.i64 (5 : Int)]]), AV.d (D.int IntKind.i64 (2 : Int))] [] (AV.d (D.bool false)) []) ∧ ((D.bool true = D.bool true) ∧ ((FnOK Try.prog (26 : Nat) [AV.d (D.sl [D.agg [D.int IntKind.i64 (1 : Int), D.int IntKind.i64 (5 : Int)]]), AV.d (D.agg [D.int IntKind.i64 (2 : Int), D.int IntKind.i64 (5 : Int)])] [] (AV.d (D.bool true)) []) ∧ ((D.bool true = D.bool true) ∧ ((FnOK Try.prog (26 : Nat) [AV.d (D.sl [D.agg [D.int IntKind.i64 (1 : Int), D.int IntKind.i64 (2 : Int)], D.agg [D.int IntKind.i64 (4 : Int), D.int IntKind.i64 (5 : Int)]]), AV.d (D.agg [D.int IntKind.i64 (1 : Int), D.int IntKind.i64 (3 : Int)])] [] (AV.d (D.bool false)) []) ∧ ((D.bool true = D.bool true) ∧ ((FnOK Try.prog (21 : Nat) [AV.d (D.sl [D.agg [D.int IntKind.i64 (1 : Int), D.int IntKind.i64 (2 : Int)], D.agg [D.int IntKind.i64 (4 : Int), D.int IntKind.i64 (5 : Int)]])] [] (AV.d (D.int IntKind.i64 (2 : Int))) []) ∧ ((D.bool true = D.bool true) ∧ ((FnOK Try.prog (28 : Nat) [AV.d (D.sl [D.agg [D.int IntKind.i64 (1 : Int), D.int IntKind.i64 (5 : Int)]]), AV.d (D.int IntKind.i64 (1 : Int))] [] (AV.d (D.int IntKind.i64 (5 : Int))) []) ∧ ((D.bool true = D.bool true) ∧ ((FnOK Try.prog (19 : Nat) [AV.d (D.sl [D.agg [D.int IntKind.i64 (1 : Int), D.int IntKind.i64 (2 : Int)], D.agg [D.int IntKind.i64 (4 : Int), D.int IntKind.i64 (5 : Int)]])] [] (AV.d (D.int IntKind.i64 (0 : Int))) []) ∧ ((D.bool true = D.bool true) ∧ ((FnOK Try.prog (19 : Nat) [AV.d (D.sl [D.agg [D.int IntKind.i64 (1 : Int), D.int IntKind.i64 (2 : Int)], D.agg [D.int IntKind.i64 (2 : Int), D.int IntKind.i64 (3 : Int)]])] [] (AV.d (D.int IntKind.i64 (10 : Int))) []) ∧ ((D.bool true = D.bool true) ∧ ((FnOK Try.prog (17 : Nat) [AV.d (D.sl [D.agg [D.int IntKind.i64 (1 : Int), D.int IntKind.i64 (5 : Int)]]), AV.d (D.sl [D.agg [D.int IntKind.i64 (1 : Int), D.int IntKind.i64 (2 : Int)], D.agg [D.int IntKind.i64 (4 : Int), D.int IntKind.i64 (5 : Int)]])] [] (AV.d (D.sl [D.agg [D.int IntKind.i64 (1 : Int), D.int IntKind.i64 (2 : Int)], D.agg [D.int IntKind.i64 (4 : Int), D.int IntKind.i64 (5 : Int)]])) []) ∧ ((FnOK Try.prog (23 : Nat) [AV.d (D.sl [D.agg [D.int IntKind.i64 (1 : Int), D.int IntKind.i64 (2 : Int)], D.agg [D.int IntKind.i64 (4 : Int), D.int IntKind.i64 (5 : Int)]]), AV.d (D.sl [D.agg [D.int IntKind.i64 (1 : Int), D.int IntKind.i64 (2 : Int)], D.agg [D.int IntKind.i64 (4 : Int), D.int IntKind.i64 (5 : Int)]])] [] (AV.d (D.bool true)) []) ∧ ((D.bool true = D.bool true) ∧ ((FnOK Try.prog (23 : Nat) [AV.d (D.sl [D.agg [D.int IntKind.i64 (1 : Int), D.int IntKind.i64 (5 : Int)]]), AV.d (D.sl [D.agg [D.int IntKind.i64 (1 : Int), D.int IntKind.i64 (2 : Int)], D.agg [D.int IntKind.i64 (4 : Int), D.int IntKind.i64 (5 : Int)]])] [] (AV.d (D.bool false)) []) ∧ ((AV.d (D.bool true) = AV.d (D.bool true)) ∧ (True)))))))))))))))))))))))))))))))))))))) (h := {chain := true, els := [(18, .el (ivD (1, 5))), (30, .el (ivD (4, 5))), (42, .el (ivD (5, 9)))], H := [(1, [(1, .call [] (.d (.sl ([(1, 3)].map ivD))) []), (3, .call [] (.d (.sl (ws.map ivD))) [])]), (2, [(2, .call [] (.d (.sl (wt.map ivD))) [])]), (3, [(2, .call [] (.d (.sl (wg.map ivD))) [])]), (4, [(36, .call [] (.d (.bool true)) []), (40, .call [] (.d (.bool false)) []), (46, .call [] (.d (.bool true)) []), (51, .call [] (.d (.bool false)) []), (56, .call [] (.d (.int .i64 2)) []), (61, .call [] (.d (.int .i64 5)) []), (66, .call [] (.d (.int .i64 0)) []), (73, .call [] (.d (.int .i64 10)) []), (79, .call [] (.d (.sl (wt.map ivD))) []), (81, .call [] (.d (.bool true)) []), (86, .call [] (.d (.bool false)) [])])]}) (subs := []) (ws := []) (ρ := []) (by kernel_rfl) ?_
  have k1 := add11 [] (by decide) (1, 3)
  rw [show rAdd [] (1, 3) = [(1, 3)] by decide +kernel] at k1
  have k2 := add11 [(1, 3)] (by decide) (3, 5)
  rw [show rAdd [(1, 3)] (3, 5) = ws by decide +kernel] at k2
  have k3 := cut13 ws (by decide) (2, 4)
  rw [show rCut ws (2, 4) = wt by decide +kernel] at k3
  have k4 := gaps15 wt (by decide) (0, 9)
  rw [show rGaps wt (0, 9) = wg by decide +kernel] at k4
  have k5 := has24 wt 4 _ _ trivial (find41 wt (by decide) 4)
  rw [show (fnd wt 4).2 = true by decide +kernel] at k5
  have k6 := has24 wt 2 _ _ trivial (find41 wt (by decide) 2)
  rw [show (fnd wt 2).2 = false by decide +kernel] at k6
  have k7 : FnOK _ _ _ _ (.d (.bool (rHolds ws (2, 5)))) _ := holds26 ws (2, 5) _ _ (find41 ws (by decide) 2)
  rw [show rHolds ws (2, 5) = true by decide +kernel] at k7
  have k8 : FnOK _ _ _ _ (.d (.bool (rHolds wt (1, 3)))) _ := holds26 wt (1, 3) _ _ (find41 wt (by decide) 1)
  rw [show rHolds wt (1, 3) = false by decide +kernel] at k8
  have k9 := count21 wt (by decide)
  rw [show rCount wt = 2 by decide +kernel] at k9
  have ka := first28 ws (by decide) 1
  rw [show rFirst ws 1 = 5 by decide +kernel] at ka
  have kb := chk19 wt (by decide)
  rw [show iChk wt = 0 by decide +kernel] at kb
  have kc := chk19 [(1, 2), (2, 3)] (by decide)
  rw [show iChk [(1, 2), (2, 3)] = 10 by decide +kernel] at kc
  have kd := meet17 ws wt (by decide) (by decide)
  rw [show rMeet ws wt = wt by decide +kernel] at kd
  have ke := same23 wt wt _ (ivD_equal wt wt (by decide))
  rw [show decide (wt = wt) = true by decide +kernel] at ke
  have kf := same23 ws wt _ (ivD_equal ws wt (by decide))
  rw [show decide (ws = wt) = false by decide +kernel] at kf
  repeat' (first | with_reducible exact True.intro | with_reducible refine And.intro ?_ ?_ | with_reducible refine condP_dec (fun _ => ?_) (fun _ => ?_) | with_reducible refine condP_eq (fun _ => ?_) (fun _ => ?_) | with_reducible refine condP_ne (fun _ => ?_) (fun _ => ?_) | with_reducible refine condP_not (condP_dec (fun _ => ?_) (fun _ => ?_)) | with_reducible refine condP_not (condP_eq (fun _ => ?_) (fun _ => ?_)) | with_reducible refine condP_not (condP_intro (fun _ => ?_) (fun _ => ?_)) | with_reducible refine condP_intro (fun _ => ?_) (fun _ => ?_))
  all_goals first | exact k1 | exact k2 | exact k3 | exact k4 | exact k5 | exact k6 | exact k7 | exact k8 | exact k9 | exact ka | exact kb | exact kc | exact kd | exact ke | exact kf | rfl | omega | skip

end Go.Proofs.Ytkfiojolgkfbcaa
