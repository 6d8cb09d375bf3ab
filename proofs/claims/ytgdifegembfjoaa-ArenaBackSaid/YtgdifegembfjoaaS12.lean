/-
laws 18: ArenaKeeps, joined. No condition beyond the statement's own.
-/
import Derived.Test.YtgdifegembfjoaaS11
set_option linter.unusedSimpArgs false
set_option linter.unusedVariables false
namespace Go.Proofs.Ytgdifegembfjoaa
open Sx Go.RowKit

def JK (l : List Int) (p : Kp) (j : Nat) : St := J5 l p.s p.h p.m p.n p.z j
theorem round5 (l : List Int) (hl : l.length ≤ 200) (p : Kp) (sp : List Int) (hp : KI p sp) (j : Nat) (c : Int) (hn : l[j]? = some c) (c0 : 0 ≤ c) (c1 : c < 256) : Runs Try.prog 0 (loopN Try.prog 5 0) ((JK l p j).as 156) .normal ((JK l (kStep p j c) (j + 1)).as 156) := by
  have hU := chk_u (chk_ok.2 ⟨sp, hp.ok⟩)
  have hu := hp.u
  obtain ⟨sp', hq⟩ := kStep_ok hp j c
  have hcq := chk_ok.2 ⟨sp', hq.ok⟩
  have hlen := hq.ok.len
  obtain ⟨q, he⟩ : ∃ q, kStep p j c = q := ⟨_, rfl⟩
  rw [he] at hq hcq hlen ⊢
  have hL := lk l q.m q.n q.z j q.s hlen hcq q.h hq.hl hq.hk
  have hqm := hq.m
  have hqu := hq.u
  unfold kStep at he
  obtain ⟨s, h, m, n, z⟩ := p
  have hpm := hp.m
  have hpm1 := hp.m1
  have hph := hp.hl
  have hpz := hp.z
  have hpk := hp.hk
  have hok := hp.ok
  simp only at hu hU hpm hpm1 hph hpz hpk hok he
  cases ht : tkB c
  · rw [if_neg (by simp [ht])] at he
    have ha2 : atI c < 64 := by unfold atI; omega
    have hk := hpk _ ha2
    cases hv0 : isLive s (atI c)
    · rw [if_neg (by simp [hv0])] at he
      subst he
      have h0 : hv s (atI c) = 0 := by unfold hv; rw [hv0]; rfl
      exact rN l hl s hok.len h hph m n z hpm hpm1 hu (by omega) (by omega) j c hn c0 c1 ht _ hk.1 h0 (give_no hok _ hv0) hcq hL
    · rw [if_pos hv0] at he
      obtain ⟨A, e, hA, hAf, hAu, hup, hAl⟩ := ok_give hok _ hv0
      rw [e] at he
      subst he
      have h0 : hv s (atI c) ≠ 0 := by
        have := hk.2
        rw [hv0] at this
        exact of_decide_eq_true this.symm
      exact rG l hl s hok.len h hph m n z hpm hpm1 hu (by omega) (by omega) j c hn c0 c1 ht _ hk.1 h0 A _ rfl e hcq hAl (by omega) hL
  · rw [if_pos ht] at he
    by_cases h64 : n = 64
    · rw [if_pos h64] at he
      subst he
      exact rF l hl s hok.len h hph m n z hpm hpm1 hu (by omega) (by omega) j c hn c0 c1 ht h64 (take_full hok _ (by omega)).1
    · rw [if_neg h64] at he
      obtain ⟨A, a, e, ha, hv0, hA, hAu, hup, hf, hAl, -⟩ := ok_take hok ((j + 1 : Nat) : Int) (by omega)
      rw [e] at he
      simp only [Int.toNat_natCast] at he
      subst he
      have hk := hpk _ ha
      have h0 : hv s a = 0 := by unfold hv; rw [hv0]; rfl
      rw [h0] at hk
      rcases hpz with hz | ⟨z0, hz⟩
      · exact rTa l hl s hok.len h hph m n z hpm hpm1 hu (by omega) (by omega) j c hn c0 c1 ht (by omega) A a ha e hk.1 _ rfl hcq hlen hqu _ rfl hqm hL hz
      · exact rTb l hl s hok.len h hph m n z hpm hpm1 hu (by omega) (by omega) j c hn c0 c1 ht (by omega) A a ha e hk.1 _ rfl hcq hlen hqu _ rfl hqm hL (by have := hf (by omega); omega)
theorem l5 (l : List Int) (hl : l.length ≤ 200) (hc : ∀ c ∈ l, 0 ≤ c ∧ c < 256) : Loops Try.prog 0 (loopN Try.prog 5 0) ((JK l p0 0).as 156) (.exit 0) ((JK l (kRun l l.length) l.length).as 156) :=
  loops_n (I := fun j => (JK l (kRun l j) j).as 156) (by simp) l.length 0 (by omega) (fun j _ hj => by
    have hn := get_of hj
    have hb := hc _ (List.getElem_mem hj)
    obtain ⟨sp, ho⟩ := kRun_ok l j
    have e : kRun l (j + 1) = kStep (kRun l j) j l[j] := by rw [kRun, hn]
    show Runs _ _ _ _ _ ((JK l (kRun l (j + 1)) (j + 1)).as _)
    rw [e]
    exact round5 l hl _ sp ho j _ hn hb.1 hb.2) (q5 l _ _ _ _ _)
set_option maxRecDepth 100000 in
set_option maxHeartbeats 1000000 in
theorem keep5n (l : List Int) (hl : ¬l.length ≤ 200) : FnOK Try.prog 5 ([.d (.sl (u8D l))]) ([]) (.d (.bool true)) ([]) := by
  refine fnOK_wp (p := (D.bool (decide ((↑(u8D l).length : Int) > (200 : Int))) = D.bool true) ∧ ((FnOK Try.prog (7 : Nat) [] [] (AV.d (D.bool true)) []) ∧ ((AV.d (D.bool true) = AV.d (D.bool true)) ∧ (True)))) (h := {H := [(1, [(2, .val (.bool true))])], G := [(7, gYes)]}) (subs := []) (ws := []) (ρ := []) (by kernel_rfl) ?_
  have hln : (u8D l).length = l.length := List.length_map ..
  repeat' (first | with_reducible exact True.intro | with_reducible refine And.intro ?_ ?_ | with_reducible refine condP_dec (fun _ => ?_) (fun _ => ?_) | with_reducible refine condP_eq (fun _ => ?_) (fun _ => ?_) | with_reducible refine condP_ne (fun _ => ?_) (fun _ => ?_) | with_reducible refine condP_not (condP_dec (fun _ => ?_) (fun _ => ?_)) | with_reducible refine condP_not (condP_eq (fun _ => ?_) (fun _ => ?_)) | with_reducible refine condP_not (condP_intro (fun _ => ?_) (fun _ => ?_)) | with_reducible refine condP_intro (fun _ => ?_) (fun _ => ?_))
  all_goals first | exact aw7 | rfl | exact dyes (by rw [hln]; omega) | skip

set_option maxRecDepth 100000 in
set_option maxHeartbeats 1000000 in
theorem keep5 (l : List Int) (hl : l.length ≤ 200) (p : Kp) (hL : Loops Try.prog 0 (loopN Try.prog 5 0) ((JK l p0 0).as 156) (.exit 0) ((JK l p l.length).as 156)) : FnOK Try.prog 5 ([.d (.sl (u8D l))]) ([]) (.d (.bool true)) ([]) := by
  refine fnOK_wp (p := (D.bool (decide ((↑(u8D l).length : Int) > (200 : Int))) = D.bool false) ∧ ((FnOK Try.prog (27 : Nat) [] [] (AV.d (D.agg [D.sl [], D.int IntKind.i64 (-1 : Int), D.int IntKind.i64 (0 : Int)])) []) ∧ ((AV.d (D.sl (u8D l)) = AV.d (D.sl (u8D l))) ∧ ((AV.ptr (1024 : Nat) (0 : Nat) = AV.ptr (1024 : Nat) (0 : Nat)) ∧ ((AV.rptr (1032 : Nat) (1 : Nat) (0 : Nat) (0 : Nat) = AV.rptr (1032 : Nat) (1 : Nat) (0 : Nat) (0 : Nat)) ∧ ((AV.d (D.int IntKind.i64 (0 : Int)) = AV.d (D.int IntKind.i64 (0 : Int))) ∧ ((AV.d (D.int IntKind.i64 (0 : Int)) = AV.d (D.int IntKind.i64 (0 : Int))) ∧ ((AV.d (D.int IntKind.i64 (-1 : Int)) = AV.d (D.int IntKind.i64 (-1 : Int))) ∧ ((AV.d (D.int IntKind.i64 (0 : Int)) = AV.d (D.int IntKind.i64 (0 : Int))) ∧ ((Ob.box [AV.d (D.sl []), AV.d (D.int IntKind.i64 (-1 : Int)), AV.d (D.int IntKind.i64 (0 : Int))] = Ob.box [AV.d (D.sl []), AV.d (D.int IntKind.i64 (-1 : Int)), AV.d (D.int IntKind.i64 (0 : Int))]) ∧ ((Ob.row (1 : Nat) [D.int IntKind.i64 (0 : Int), D.int IntKind.i64 (0 : Int), D.int IntKind.i64 (0 : Int), D.int IntKind.i64 (0 : Int), D.int IntKind.i64 (0 : Int), D.int IntKind.i64 (0 : Int), D.int IntKind.i64 (0 : Int), D.int IntKind.i64 (0 : Int), D.int IntKind.i64 (0 : Int), D.int IntKind.i64 (0 : Int), D.int IntKind.i64 (0 : Int), D.int IntKind.i64 (0 : Int), D.int IntKind.i64 (0 : Int), D.int IntKind.i64 (0 : Int), D.int IntKind.i64 (0 : Int), D.int IntKind.i64 (0 : Int), D.int IntKind.i64 (0 : Int), D.int IntKind.i64 (0 : Int), D.int IntKind.i64 (0 : Int), D.int IntKind.i64 (0 : Int), D.int IntKind.i64 (0 : Int), D.int IntKind.i64 (0 : Int), D.int IntKind.i64 (0 : Int), D.int IntKind.i64 (0 : Int), D.int IntKind.i64 (0 : Int), D.int IntKind.i64 (0 : Int), D.int IntKind.i64 (0 : Int), D.int IntKind.i64 (0 : Int), D.int IntKind.i64 (0 : Int), D.int IntKind.i64 (0 : Int), D.int IntKind.i64 (0 : Int), D.int IntKind.i64 (0 : Int), D.int IntKind.i64 (0 : Int), D.int IntKind.i64 (0 : Int), D.int IntKind.i64 (0 : Int), D.int IntKind.i64 (0 : Int), D.int IntKind.i64 (0 : Int), D.int IntKind.i64 (0 : Int), D.int IntKind.i64 (0 : Int), D.int IntKind.i64 (0 : Int), D.int IntKind.i64 (0 : Int), D.int IntKind.i64 (0 : Int), D.int IntKind.i64 (0 : Int), D.int IntKind.i64 (0 : Int), D.int IntKind.i64 (0 : Int), D.int IntKind.i64 (0 : Int), D.int IntKind.i64 (0 : Int), D.int IntKind.i64 (0 : Int), D.int IntKind.i64 (0 : Int), D.int IntKind.i64 (0 : Int), D.int IntKind.i64 (0 : Int), D.int IntKind.i64 (0 : Int), D.int IntKind.i64 (0 : Int), D.int IntKind.i64 (0 : Int), D.int IntKind.i64 (0 : Int), D.int IntKind.i64 (0 : Int), D.int IntKind.i64 (0 : Int), D.int IntKind.i64 (0 : Int), D.int IntKind.i64 (0 : Int), D.int IntKind.i64 (0 : Int), D.int IntKind.i64 (0 : Int), D.int IntKind.i64 (0 : Int), D.int IntKind.i64 (0 : Int), D.int IntKind.i64 (0 : Int)] = Ob.row (1 : Nat) [D.int IntKind.i64 (0 : Int), D.int IntKind.i64 (0 : Int), D.int IntKind.i64 (0 : Int), D.int IntKind.i64 (0 : Int), D.int IntKind.i64 (0 : Int), D.int IntKind.i64 (0 : Int), D.int IntKind.i64 (0 : Int), D.int IntKind.i64 (0 : Int), D.int IntKind.i64 (0 : Int), D.int IntKind.i64 (0 : Int), D.int IntKind.i64 (0 : Int), D.int IntKind.i64 (0 : Int), D.int IntKind.i64 (0 : Int), D.int IntKind.i64 (0 : Int), D.int IntKind.i64 (0 : Int), D.int IntKind.i64 (0 : Int), D.int IntKind.i64 (0 : Int), D.int IntKind.i64 (0 : Int), D.int IntKind.i64 (0 : Int), D.int IntKind.i64 (0 : Int), D.int IntKind.i64 (0 : Int), D.int IntKind.i64 (0 : Int), D.int IntKind.i64 (0 : Int), D.int IntKind.i64 (0 : Int), D.int IntKind.i64 (0 : Int), D.int IntKind.i64 (0 : Int), D.int IntKind.i64 (0 : Int), D.int IntKind.i64 (0 : Int), D.int IntKind.i64 (0 : Int), D.int IntKind.i64 (0 : Int), D.int IntKind.i64 (0 : Int), D.int IntKind.i64 (0 : Int), D.int IntKind.i64 (0 : Int), D.int IntKind.i64 (0 : Int), D.int IntKind.i64 (0 : Int), D.int IntKind.i64 (0 : Int), D.int IntKind.i64 (0 : Int), D.int IntKind.i64 (0 : Int), D.int IntKind.i64 (0 : Int), D.int IntKind.i64 (0 : Int), D.int IntKind.i64 (0 : Int), D.int IntKind.i64 (0 : Int), D.int IntKind.i64 (0 : Int), D.int IntKind.i64 (0 : Int), D.int IntKind.i64 (0 : Int), D.int IntKind.i64 (0 : Int), D.int IntKind.i64 (0 : Int), D.int IntKind.i64 (0 : Int), D.int IntKind.i64 (0 : Int), D.int IntKind.i64 (0 : Int), D.int IntKind.i64 (0 : Int), D.int IntKind.i64 (0 : Int), D.int IntKind.i64 (0 : Int), D.int IntKind.i64 (0 : Int), D.int IntKind.i64 (0 : Int), D.int IntKind.i64 (0 : Int), D.int IntKind.i64 (0 : Int), D.int IntKind.i64 (0 : Int), D.int IntKind.i64 (0 : Int), D.int IntKind.i64 (0 : Int), D.int IntKind.i64 (0 : Int), D.int IntKind.i64 (0 : Int), D.int IntKind.i64 (0 : Int), D.int IntKind.i64 (0 : Int)]) ∧ ((LoopsS Try.prog (0 : Nat) (loopN Try.prog (5 : Nat) (0 : Nat)) (JK l p0 (0 : Nat)) (Exit.exit (0 : Nat)) (JK l p l.length) (156 : Nat)) ∧ ((FnOK Try.prog (7 : Nat) [] [] (AV.d (D.bool true)) []) ∧ ((AV.d (D.bool true) = AV.d (D.bool true)) ∧ (True))))))))))))))) (h := {els := [(4, .arr)], H := [(1, [(2, .val (.bool false))])], G := [(27, gAns (.d (arD ⟨[], -1, 0⟩))), (7, gYes)]}) (subs := [⟨[], [], JK l p0 0, .exit 0, JK l p l.length⟩]) (ws := []) (ρ := []) (by kernel_rfl) ?_
  have hln : (u8D l).length = l.length := List.length_map ..
  repeat' (first | with_reducible exact True.intro | with_reducible refine And.intro ?_ ?_ | with_reducible refine condP_dec (fun _ => ?_) (fun _ => ?_) | with_reducible refine condP_eq (fun _ => ?_) (fun _ => ?_) | with_reducible refine condP_ne (fun _ => ?_) (fun _ => ?_) | with_reducible refine condP_not (condP_dec (fun _ => ?_) (fun _ => ?_)) | with_reducible refine condP_not (condP_eq (fun _ => ?_) (fun _ => ?_)) | with_reducible refine condP_not (condP_intro (fun _ => ?_) (fun _ => ?_)) | with_reducible refine condP_intro (fun _ => ?_) (fun _ => ?_))
  all_goals first | exact hL | exact new27 | exact aw7 | rfl | exact dno (by rw [hln]; omega) | skip

theorem arenaKeeps_ok (x0 : D) (s0 : ∃ ds, CK.hasL [.sl false [.int .u8]] ds ∧ (if false then x0 = .agg ds else ds = [x0])) :
    FnOK Try.prog 5 [.d x0] [] (.d (.bool true)) [] := by
  obtain ⟨l, rfl, hc⟩ := u8s_of x0 s0
  by_cases hl : l.length ≤ 200
  · exact keep5 l hl _ (l5 l hl hc)
  · exact keep5n l hl
end Go.Proofs.Ytgdifegembfjoaa
