/-
laws 18: what cells are made of what is done to them.
-/
import Derived.Test.YtgdifegembfjoaaS3
set_option linter.unusedSimpArgs false
set_option linter.unusedVariables false
namespace Go.Proofs.Ytgdifegembfjoaa
open Sx Go.RowKit

/-! ### Whether one is live -/
set_option maxRecDepth 100000 in
set_option maxHeartbeats 1000000 in
theorem live31a (s : Ar) (n : Nat) (c : Ce) (hn : s.l[n]? = some c) (b : Bool) (hb : c.v = b) : FnOK Try.prog 31 ([.d (arD s), .d (.int .i64 n)]) ([]) (.d (.bool b)) ([]) := by
  refine fnOK_wp (p := (D.bool true = D.bool true) ∧ ((D.bool true = D.bool true) ∧ ((D.bool (decide ((↑n : Int) < (↑(List.map ceD s.l).length : Int))) = D.bool true) ∧ ((D.bool true = D.bool true) ∧ (((0 : Int) ≤ (↑n : Int)) ∧ (((List.map ceD s.l)[(↑n : Int).toNat]? = some (D.agg [D.bool c.v, D.int IntKind.i64 c.x, D.int IntKind.i64 c.l])) ∧ ((AV.d (D.bool c.v) = AV.d (D.bool b)) ∧ (True)))))))) (h := {els := [(16, .el (ceD c))], H := [(1, [(1, .val (.bool true)), (7, .val (.bool true))])]}) (subs := []) (ws := []) (ρ := []) (by kernel_rfl) ?_
  have hj := get_lt hn
  simp only [List.length_map]
  repeat' (first | with_reducible exact True.intro | with_reducible refine And.intro ?_ ?_ | with_reducible refine condP_dec (fun _ => ?_) (fun _ => ?_) | with_reducible refine condP_eq (fun _ => ?_) (fun _ => ?_) | with_reducible refine condP_ne (fun _ => ?_) (fun _ => ?_) | with_reducible refine condP_not (condP_dec (fun _ => ?_) (fun _ => ?_)) | with_reducible refine condP_not (condP_eq (fun _ => ?_) (fun _ => ?_)) | with_reducible refine condP_not (condP_intro (fun _ => ?_) (fun _ => ?_)) | with_reducible refine condP_intro (fun _ => ?_) (fun _ => ?_))
  all_goals first | exact el_map hn rfl | rfl | (rw [hb]; done) | omega | exact dyes (by omega) | exact dno (by omega) | (refine congrArg D.bool ?_; simp_all; done) | skip

set_option maxRecDepth 100000 in
set_option maxHeartbeats 1000000 in
theorem live31b (s : Ar) (a : Int) (ha : a < 0) : FnOK Try.prog 31 ([.d (arD s), .d (.int .i64 a)]) ([]) (.d (.bool false)) ([]) := by
  refine fnOK_wp (p := (D.bool (decide (a ≥ (0 : Int))) = D.bool false) ∧ ((D.bool false = D.bool false) ∧ ((D.bool false = D.bool false) ∧ ((AV.d (D.bool false) = AV.d (D.bool false)) ∧ (True))))) (h := {H := [(1, [(1, .val (.bool false))])]}) (subs := []) (ws := []) (ρ := []) (by kernel_rfl) ?_
  repeat' (first | with_reducible exact True.intro | with_reducible refine And.intro ?_ ?_ | with_reducible refine condP_dec (fun _ => ?_) (fun _ => ?_) | with_reducible refine condP_eq (fun _ => ?_) (fun _ => ?_) | with_reducible refine condP_ne (fun _ => ?_) (fun _ => ?_) | with_reducible refine condP_not (condP_dec (fun _ => ?_) (fun _ => ?_)) | with_reducible refine condP_not (condP_eq (fun _ => ?_) (fun _ => ?_)) | with_reducible refine condP_not (condP_intro (fun _ => ?_) (fun _ => ?_)) | with_reducible refine condP_intro (fun _ => ?_) (fun _ => ?_))
  all_goals first | rfl | exact dno (by omega) | skip

set_option maxRecDepth 100000 in
set_option maxHeartbeats 1000000 in
theorem live31c (s : Ar) (a : Int) (ha : (s.l.length : Int) ≤ a) : FnOK Try.prog 31 ([.d (arD s), .d (.int .i64 a)]) ([]) (.d (.bool false)) ([]) := by
  refine fnOK_wp (p := (D.bool (decide (a ≥ (0 : Int))) = D.bool true) ∧ ((D.bool true = D.bool true) ∧ ((D.bool (decide (a < (↑(List.map ceD s.l).length : Int))) = D.bool false) ∧ ((D.bool false = D.bool false) ∧ ((AV.d (D.bool false) = AV.d (D.bool false)) ∧ (True)))))) (h := {H := [(1, [(1, .val (.bool true)), (7, .val (.bool false))])]}) (subs := []) (ws := []) (ρ := []) (by kernel_rfl) ?_
  simp only [List.length_map]
  repeat' (first | with_reducible exact True.intro | with_reducible refine And.intro ?_ ?_ | with_reducible refine condP_dec (fun _ => ?_) (fun _ => ?_) | with_reducible refine condP_eq (fun _ => ?_) (fun _ => ?_) | with_reducible refine condP_ne (fun _ => ?_) (fun _ => ?_) | with_reducible refine condP_not (condP_dec (fun _ => ?_) (fun _ => ?_)) | with_reducible refine condP_not (condP_eq (fun _ => ?_) (fun _ => ?_)) | with_reducible refine condP_not (condP_intro (fun _ => ?_) (fun _ => ?_)) | with_reducible refine condP_intro (fun _ => ?_) (fun _ => ?_))
  all_goals first | rfl | exact dno (by omega) | exact dyes (by omega) | skip

set_option maxRecDepth 100000 in
set_option maxHeartbeats 1000000 in
theorem live32a (s : Ar) (n : Nat) (c : Ce) (hn : s.l[n]? = some c) (b : Bool) (hb : c.v = b) : FnOK Try.prog 32 ([.d (arD s), .d (.int .i64 n)]) ([]) (.d (.bool b)) ([]) := by
  refine fnOK_wp (p := (D.bool true = D.bool true) ∧ ((D.bool true = D.bool true) ∧ ((D.bool (decide ((↑n : Int) < (↑(List.map ceD s.l).length : Int))) = D.bool true) ∧ ((D.bool true = D.bool true) ∧ (((0 : Int) ≤ (↑n : Int)) ∧ (((List.map ceD s.l)[(↑n : Int).toNat]? = some (D.agg [D.bool c.v, D.int IntKind.i64 c.x, D.int IntKind.i64 c.l])) ∧ ((AV.d (D.bool c.v) = AV.d (D.bool b)) ∧ (True)))))))) (h := {els := [(16, .el (ceD c))], H := [(1, [(1, .val (.bool true)), (7, .val (.bool true))])]}) (subs := []) (ws := []) (ρ := []) (by kernel_rfl) ?_
  have hj := get_lt hn
  simp only [List.length_map]
  repeat' (first | with_reducible exact True.intro | with_reducible refine And.intro ?_ ?_ | with_reducible refine condP_dec (fun _ => ?_) (fun _ => ?_) | with_reducible refine condP_eq (fun _ => ?_) (fun _ => ?_) | with_reducible refine condP_ne (fun _ => ?_) (fun _ => ?_) | with_reducible refine condP_not (condP_dec (fun _ => ?_) (fun _ => ?_)) | with_reducible refine condP_not (condP_eq (fun _ => ?_) (fun _ => ?_)) | with_reducible refine condP_not (condP_intro (fun _ => ?_) (fun _ => ?_)) | with_reducible refine condP_intro (fun _ => ?_) (fun _ => ?_))
  all_goals first | exact el_map hn rfl | rfl | (rw [hb]; done) | omega | exact dyes (by omega) | exact dno (by omega) | (refine congrArg D.bool ?_; simp_all; done) | skip

set_option maxRecDepth 100000 in
set_option maxHeartbeats 1000000 in
theorem live32b (s : Ar) (a : Int) (ha : a < 0) : FnOK Try.prog 32 ([.d (arD s), .d (.int .i64 a)]) ([]) (.d (.bool false)) ([]) := by
  refine fnOK_wp (p := (D.bool (decide (a ≥ (0 : Int))) = D.bool false) ∧ ((D.bool false = D.bool false) ∧ ((D.bool false = D.bool false) ∧ ((AV.d (D.bool false) = AV.d (D.bool false)) ∧ (True))))) (h := {H := [(1, [(1, .val (.bool false))])]}) (subs := []) (ws := []) (ρ := []) (by kernel_rfl) ?_
  repeat' (first | with_reducible exact True.intro | with_reducible refine And.intro ?_ ?_ | with_reducible refine condP_dec (fun _ => ?_) (fun _ => ?_) | with_reducible refine condP_eq (fun _ => ?_) (fun _ => ?_) | with_reducible refine condP_ne (fun _ => ?_) (fun _ => ?_) | with_reducible refine condP_not (condP_dec (fun _ => ?_) (fun _ => ?_)) | with_reducible refine condP_not (condP_eq (fun _ => ?_) (fun _ => ?_)) | with_reducible refine condP_not (condP_intro (fun _ => ?_) (fun _ => ?_)) | with_reducible refine condP_intro (fun _ => ?_) (fun _ => ?_))
  all_goals first | rfl | exact dno (by omega) | skip

set_option maxRecDepth 100000 in
set_option maxHeartbeats 1000000 in
theorem live32c (s : Ar) (a : Int) (ha : (s.l.length : Int) ≤ a) : FnOK Try.prog 32 ([.d (arD s), .d (.int .i64 a)]) ([]) (.d (.bool false)) ([]) := by
  refine fnOK_wp (p := (D.bool (decide (a ≥ (0 : Int))) = D.bool true) ∧ ((D.bool true = D.bool true) ∧ ((D.bool (decide (a < (↑(List.map ceD s.l).length : Int))) = D.bool false) ∧ ((D.bool false = D.bool false) ∧ ((AV.d (D.bool false) = AV.d (D.bool false)) ∧ (True)))))) (h := {H := [(1, [(1, .val (.bool true)), (7, .val (.bool false))])]}) (subs := []) (ws := []) (ρ := []) (by kernel_rfl) ?_
  simp only [List.length_map]
  repeat' (first | with_reducible exact True.intro | with_reducible refine And.intro ?_ ?_ | with_reducible refine condP_dec (fun _ => ?_) (fun _ => ?_) | with_reducible refine condP_eq (fun _ => ?_) (fun _ => ?_) | with_reducible refine condP_ne (fun _ => ?_) (fun _ => ?_) | with_reducible refine condP_not (condP_dec (fun _ => ?_) (fun _ => ?_)) | with_reducible refine condP_not (condP_eq (fun _ => ?_) (fun _ => ?_)) | with_reducible refine condP_not (condP_intro (fun _ => ?_) (fun _ => ?_)) | with_reducible refine condP_intro (fun _ => ?_) (fun _ => ?_))
  all_goals first | rfl | exact dno (by omega) | exact dyes (by omega) | skip

theorem isLive_of {s : Ar} {n : Nat} {c : Ce} (h : s.l[n]? = some c) : isLive s n = c.v := by
  have := get_lt h
  unfold isLive
  rw [liveAt_of h, decide_eq_true (by omega)]; rfl
theorem isLive_no {s : Ar} {a : Int} (h : ¬(0 ≤ a ∧ a < (s.l.length : Int))) : isLive s a = false := by
  unfold isLive
  rw [decide_eq_false h]; rfl
theorem isLive_yes {s : Ar} {a : Int} (h : isLive s a = true) : ∃ (n : Nat) (c : Ce), a = n ∧ s.l[n]? = some c ∧ c.v = true := by
  by_cases h1 : 0 ≤ a ∧ a < (s.l.length : Int)
  · obtain ⟨n, rfl⟩ := Int.eq_ofNat_of_zero_le h1.1
    have hn : n < s.l.length := by omega
    rw [isLive_of (get_of hn)] at h
    exact ⟨n, _, rfl, get_of hn, h⟩
  · rw [isLive_no h1] at h; cases h
theorem live31 (s : Ar) (a : Int) : FnOK Try.prog 31 [.d (arD s), .d (.int .i64 a)] [] (.d (.bool (isLive s a))) [] := by
  by_cases h1 : a < 0
  · rw [isLive_no (by omega)]; exact live31b s a h1
  · by_cases h2 : (s.l.length : Int) ≤ a
    · rw [isLive_no (by omega)]; exact live31c s a h2
    · obtain ⟨n, rfl⟩ := Int.eq_ofNat_of_zero_le (show 0 ≤ a by omega)
      have hn : n < s.l.length := by omega
      rw [isLive_of (get_of hn)]
      exact live31a s n _ (get_of hn) _ rfl
theorem live32 (s : Ar) (a : Int) : FnOK Try.prog 32 [.d (arD s), .d (.int .i64 a)] [] (.d (.bool (isLive s a))) [] := by
  by_cases h1 : a < 0
  · rw [isLive_no (by omega)]; exact live32b s a h1
  · by_cases h2 : (s.l.length : Int) ≤ a
    · rw [isLive_no (by omega)]; exact live32c s a h2
    · obtain ⟨n, rfl⟩ := Int.eq_ofNat_of_zero_le (show 0 ≤ a by omega)
      have hn : n < s.l.length := by omega
      rw [isLive_of (get_of hn)]
      exact live32a s n _ (get_of hn) _ rfl
/-! ### Take, Give, Set: the program's -/
set_option maxRecDepth 100000 in
set_option maxHeartbeats 1000000 in
theorem own29 (s : Ar) (hl : s.l.length < 1000000) : FnOK Try.prog 29 ([.d (arD s)]) ([]) (.agg [.own 0 3, .d (.int .i64 s.f), .d (.int .i64 s.u)]) ([.row 3 (s.l.map ceD)]) := by
  refine fnOK_wp (p := (FnOK Try.prog (42 : Nat) [AV.d (D.sl (List.map ceD s.l))] [] (AV.own (0 : Nat) (3 : Nat)) [Ob.row (3 : Nat) (List.map ceD s.l)]) ∧ ((AV.agg [AV.own (1040 : Nat) (3 : Nat), AV.d (D.int IntKind.i64 s.f), AV.d (D.int IntKind.i64 s.u)] = AV.agg [AV.own (1040 : Nat) (3 : Nat), AV.d (D.int IntKind.i64 s.f), AV.d (D.int IntKind.i64 s.u)]) ∧ ((Ob.row (3 : Nat) (List.map ceD s.l) = Ob.row (3 : Nat) (List.map ceD s.l)) ∧ (True)))) (h := {H := [(1, [(2, .call [] (.own 0 3) [.row 3 (s.l.map ceD)])])]}) (subs := []) (ws := []) (ρ := []) (by kernel_rfl) ?_
  exact ⟨ceD_clone s.l (by omega), rfl, rfl, trivial⟩

set_option maxRecDepth 100000 in
set_option maxHeartbeats 1000000 in
theorem take9n (s : Ar) (hl : s.l.length < 1000000) (v e : Int) (he : aChk s = e) (h0 : e ≠ 0) : FnOK Try.prog 9 ([.d (arD s), .d (.int .i64 v)]) ([]) (.tup [.d (arD s), .d (.int .i64 0), .d (.int .i64 e)]) ([]) := by
  refine fnOK_wp (p := (FnOK Try.prog (29 : Nat) [AV.d (D.agg [D.sl (List.map ceD s.l), D.int IntKind.i64 s.f, D.int IntKind.i64 s.u])] [] (AV.agg [AV.own (0 : Nat) (3 : Nat), AV.d (D.int IntKind.i64 s.f), AV.d (D.int IntKind.i64 s.u)]) [Ob.row (3 : Nat) (List.map ceD s.l)]) ∧ ((FnOK Try.prog (19 : Nat) [AV.d (D.agg [D.sl (List.map ceD s.l), D.int IntKind.i64 s.f, D.int IntKind.i64 s.u])] [] (AV.d (D.int IntKind.i64 e)) []) ∧ ((D.bool (e != (0 : Int)) = D.bool true) ∧ ((AV.tup [AV.d (D.agg [D.sl (List.map ceD s.l), D.int IntKind.i64 s.f, D.int IntKind.i64 s.u]), AV.d (D.int IntKind.i64 (0 : Int)), AV.d (D.int IntKind.i64 e)] = AV.tup [AV.d (D.agg [D.sl (List.map ceD s.l), D.int IntKind.i64 s.f, D.int IntKind.i64 s.u]), AV.d (D.int IntKind.i64 (0 : Int)), AV.d (D.int IntKind.i64 e)]) ∧ (True))))) (h := {G := [(19, gAns (.d (.int .i64 e)))], H := [(1, [(1, .call [] (.agg [.own 0 3, .d (.int .i64 s.f), .d (.int .i64 s.u)]) [.row 3 (s.l.map ceD)])]), (3, [(1, .val (.bool true))])]}) (subs := []) (ws := []) (ρ := []) (by kernel_rfl) ?_
  have k0 := own29 s hl
  have k1 := chk19 s hl
  rw [he] at k1
  repeat' (first | with_reducible exact True.intro | with_reducible refine And.intro ?_ ?_ | with_reducible refine condP_dec (fun _ => ?_) (fun _ => ?_) | with_reducible refine condP_eq (fun _ => ?_) (fun _ => ?_) | with_reducible refine condP_ne (fun _ => ?_) (fun _ => ?_) | with_reducible refine condP_not (condP_dec (fun _ => ?_) (fun _ => ?_)) | with_reducible refine condP_not (condP_eq (fun _ => ?_) (fun _ => ?_)) | with_reducible refine condP_not (condP_intro (fun _ => ?_) (fun _ => ?_)) | with_reducible refine condP_intro (fun _ => ?_) (fun _ => ?_))
  all_goals first | exact k0 | exact k1 | exact k2 | rfl | exact el_map hn rfl | omega | exact dyes (by omega) | exact dno (by omega) | (refine congrArg D.bool ?_; simp_all; done) | (simp [List.map_set]; done) | (simp; omega) | (intro e he; simp [chunk] at he; subst he; rfl) | (simp [arD, ceD]; done) | (simp [arD, ceD, List.map_set]; done) | skip

set_option maxRecDepth 100000 in
set_option maxHeartbeats 1000000 in
theorem take9f (s : Ar) (hl : s.l.length < 1000000) (v : Int) (he : aChk s = 0) (h0 : 64 ≤ s.u) : FnOK Try.prog 9 ([.d (arD s), .d (.int .i64 v)]) ([]) (.tup [.d (arD s), .d (.int .i64 0), .d (.int .i64 7)]) ([]) := by
  refine fnOK_wp (p := (FnOK Try.prog (29 : Nat) [AV.d (D.agg [D.sl (List.map ceD s.l), D.int IntKind.i64 s.f, D.int IntKind.i64 s.u])] [] (AV.agg [AV.own (0 : Nat) (3 : Nat), AV.d (D.int IntKind.i64 s.f), AV.d (D.int IntKind.i64 s.u)]) [Ob.row (3 : Nat) (List.map ceD s.l)]) ∧ ((FnOK Try.prog (19 : Nat) [AV.d (D.agg [D.sl (List.map ceD s.l), D.int IntKind.i64 s.f, D.int IntKind.i64 s.u])] [] (AV.d (D.int IntKind.i64 (0 : Int))) []) ∧ ((D.bool (decide (s.u ≥ (64 : Int))) = D.bool true) ∧ ((AV.tup [AV.d (D.agg [D.sl (List.map ceD s.l), D.int IntKind.i64 s.f, D.int IntKind.i64 s.u]), AV.d (D.int IntKind.i64 (0 : Int)), AV.d (D.int IntKind.i64 (7 : Int))] = AV.tup [AV.d (D.agg [D.sl (List.map ceD s.l), D.int IntKind.i64 s.f, D.int IntKind.i64 s.u]), AV.d (D.int IntKind.i64 (0 : Int)), AV.d (D.int IntKind.i64 (7 : Int))]) ∧ (True))))) (h := {G := [(19, gAns (.d (.int .i64 0)))], H := [(1, [(1, .call [] (.agg [.own 0 3, .d (.int .i64 s.f), .d (.int .i64 s.u)]) [.row 3 (s.l.map ceD)])]), (5, [(2, .val (.bool true))])]}) (subs := []) (ws := []) (ρ := []) (by kernel_rfl) ?_
  have k0 := own29 s hl
  have k1 := chk19 s hl
  rw [he] at k1
  repeat' (first | with_reducible exact True.intro | with_reducible refine And.intro ?_ ?_ | with_reducible refine condP_dec (fun _ => ?_) (fun _ => ?_) | with_reducible refine condP_eq (fun _ => ?_) (fun _ => ?_) | with_reducible refine condP_ne (fun _ => ?_) (fun _ => ?_) | with_reducible refine condP_not (condP_dec (fun _ => ?_) (fun _ => ?_)) | with_reducible refine condP_not (condP_eq (fun _ => ?_) (fun _ => ?_)) | with_reducible refine condP_not (condP_intro (fun _ => ?_) (fun _ => ?_)) | with_reducible refine condP_intro (fun _ => ?_) (fun _ => ?_))
  all_goals first | exact k0 | exact k1 | exact k2 | rfl | exact el_map hn rfl | omega | exact dyes (by omega) | exact dno (by omega) | (refine congrArg D.bool ?_; simp_all; done) | (simp [List.map_set]; done) | (simp; omega) | (intro e he; simp [chunk] at he; subst he; rfl) | (simp [arD, ceD]; done) | (simp [arD, ceD, List.map_set]; done) | skip

set_option maxRecDepth 100000 in
set_option maxHeartbeats 1000000 in
theorem take9a (s : Ar) (hl : s.l.length < 1000000) (v : Int) (he : aChk s = 0) (h0 : s.u < 64) (h1 : 0 ≤ s.u) (hf : s.f = -1) : FnOK Try.prog 9 ([.d (arD s), .d (.int .i64 v)]) ([]) (.tup [.d (arD ⟨s.l ++ [⟨true, v, 0⟩], s.f, s.u + 1⟩), .d (.int .i64 s.l.length), .d (.int .i64 0)]) ([]) := by
  refine fnOK_wp (p := (FnOK Try.prog (29 : Nat) [AV.d (D.agg [D.sl (List.map ceD s.l), D.int IntKind.i64 s.f, D.int IntKind.i64 s.u])] [] (AV.agg [AV.own (0 : Nat) (3 : Nat), AV.d (D.int IntKind.i64 s.f), AV.d (D.int IntKind.i64 s.u)]) [Ob.row (3 : Nat) (List.map ceD s.l)]) ∧ ((FnOK Try.prog (19 : Nat) [AV.d (D.agg [D.sl (List.map ceD s.l), D.int IntKind.i64 s.f, D.int IntKind.i64 s.u])] [] (AV.d (D.int IntKind.i64 (0 : Int))) []) ∧ ((D.bool (decide (s.u ≥ (64 : Int))) = D.bool false) ∧ ((D.bool (s.f == (-1 : Int)) = D.bool true) ∧ ((((List.map ceD s.l).length + [D.agg (List.take (3 : Nat) [D.bool true, D.int IntKind.i64 v, D.int IntKind.i64 (0 : Int)])].length) * (24 : Nat) ≤ (140737488355328 : Nat)) ∧ ((∀ (e : D), e ∈ chunk (3 : Nat) (1 : Nat) [D.bool true, D.int IntKind.i64 v, D.int IntKind.i64 (0 : Int)] → e.cells.length = (3 : Nat)) ∧ ((AV.tup [AV.d (D.agg [D.sl (List.map ceD s.l ++ [D.agg (List.take (3 : Nat) [D.bool true, D.int IntKind.i64 v, D.int IntKind.i64 (0 : Int)])]), D.int IntKind.i64 s.f, D.int IntKind.i64 (IntKind.i64.wrap (s.u + (1 : Int)))]), AV.d (D.int IntKind.i64 (↑(List.map ceD s.l).length : Int)), AV.d (D.int IntKind.i64 (0 : Int))] = AV.tup [AV.d (D.agg [D.sl (List.map ceD (Ar.mk (s.l ++ [Ce.mk true v (0 : Int)]) s.f (s.u + (1 : Int))).l), D.int IntKind.i64 (Ar.mk (s.l ++ [Ce.mk true v (0 : Int)]) s.f (s.u + (1 : Int))).f, D.int IntKind.i64 (Ar.mk (s.l ++ [Ce.mk true v (0 : Int)]) s.f (s.u + (1 : Int))).u]), AV.d (D.int IntKind.i64 (↑s.l.length : Int)), AV.d (D.int IntKind.i64 (0 : Int))]) ∧ (True)))))))) (h := {G := [(19, gAns (.d (.int .i64 0)))], H := [(1, [(1, .call [] (.agg [.own 0 3, .d (.int .i64 s.f), .d (.int .i64 s.u)]) [.row 3 (s.l.map ceD)])]), (5, [(2, .val (.bool false))]), (10, [(1, .val (.bool true))])]}) (subs := []) (ws := []) (ρ := []) (by kernel_rfl) ?_
  have k0 := own29 s hl
  have k1 := chk19 s hl
  rw [he] at k1
  have hw : IntKind.i64.wrap (s.u + 1) = s.u + 1 := by rw [IntKind.wrap_i64]; omega
  simp only [hw, List.length_map]
  repeat' (first | with_reducible exact True.intro | with_reducible refine And.intro ?_ ?_ | with_reducible refine condP_dec (fun _ => ?_) (fun _ => ?_) | with_reducible refine condP_eq (fun _ => ?_) (fun _ => ?_) | with_reducible refine condP_ne (fun _ => ?_) (fun _ => ?_) | with_reducible refine condP_not (condP_dec (fun _ => ?_) (fun _ => ?_)) | with_reducible refine condP_not (condP_eq (fun _ => ?_) (fun _ => ?_)) | with_reducible refine condP_not (condP_intro (fun _ => ?_) (fun _ => ?_)) | with_reducible refine condP_intro (fun _ => ?_) (fun _ => ?_))
  all_goals first | exact k0 | exact k1 | exact k2 | rfl | exact el_map hn rfl | omega | exact dyes (by omega) | exact dno (by omega) | (refine congrArg D.bool ?_; simp_all; done) | (simp [List.map_set]; done) | (simp; omega) | (intro e he; simp [chunk] at he; subst he; rfl) | (simp [arD, ceD]; done) | (simp [arD, ceD, List.map_set]; done) | skip

set_option maxRecDepth 100000 in
set_option maxHeartbeats 1000000 in
theorem take9s (l : List Ce) (u : Int) (n : Nat) (hl : l.length < 1000000) (v : Int) (he : aChk ⟨l, n, u⟩ = 0) (h0 : u < 64) (h1 : 0 ≤ u) (c : Ce) (hn : l[n]? = some c) : FnOK Try.prog 9 ([.d (arD ⟨l, n, u⟩), .d (.int .i64 v)]) ([]) (.tup [.d (arD ⟨l.set n ⟨true, v, 0⟩, c.l, u + 1⟩), .d (.int .i64 n), .d (.int .i64 0)]) ([]) := by
  refine fnOK_wp (p := (FnOK Try.prog (29 : Nat) [AV.d (D.agg [D.sl (List.map ceD (Ar.mk l (↑n : Int) u).l), D.int IntKind.i64 (Ar.mk l (↑n : Int) u).f, D.int IntKind.i64 (Ar.mk l (↑n : Int) u).u])] [] (AV.agg [AV.own (0 : Nat) (3 : Nat), AV.d (D.int IntKind.i64 (↑n : Int)), AV.d (D.int IntKind.i64 u)]) [Ob.row (3 : Nat) (List.map ceD l)]) ∧ ((FnOK Try.prog (19 : Nat) [AV.d (D.agg [D.sl (List.map ceD (Ar.mk l (↑n : Int) u).l), D.int IntKind.i64 (Ar.mk l (↑n : Int) u).f, D.int IntKind.i64 (Ar.mk l (↑n : Int) u).u])] [] (AV.d (D.int IntKind.i64 (0 : Int))) []) ∧ ((D.bool (decide ((Ar.mk l (↑n : Int) u).u ≥ (64 : Int))) = D.bool false) ∧ ((D.bool false = D.bool false) ∧ (((0 : Int) ≤ (↑n : Int) ∧ (↑n : Int) < (↑(List.map ceD l).length : Int)) ∧ (((↑n : Int).toNat < (List.map ceD l).length) ∧ (((3 : Nat) = (3 : Nat)) ∧ (((List.map ceD l)[(↑n : Int).toNat]? = some (D.agg [D.bool c.v, D.int IntKind.i64 c.x, D.int IntKind.i64 c.l])) ∧ (((0 : Int) ≤ (↑n : Int) ∧ (↑n : Int) < (↑(List.map ceD l).length : Int)) ∧ (((3 : Nat) = (3 : Nat)) ∧ (((List.map ceD l)[(↑n : Int).toNat]? = some (D.agg [D.bool c.v, D.int IntKind.i64 c.x, D.int IntKind.i64 c.l])) ∧ ((AV.tup [AV.d (D.agg [D.sl ((List.map ceD l).set (↑n : Int).toNat (D.agg (List.take (0 : Nat) [D.bool c.v, D.int IntKind.i64 c.x, D.int IntKind.i64 c.l] ++ [D.bool true, D.int IntKind.i64 v, D.int IntKind.i64 (0 : Int)] ++ List.drop ((0 : Nat) + [D.bool true, D.int IntKind.i64 v, D.int IntKind.i64 (0 : Int)].length) [D.bool c.v, D.int IntKind.i64 c.x, D.int IntKind.i64 c.l]))), D.int IntKind.i64 c.l, D.int IntKind.i64 (IntKind.i64.wrap (u + (1 : Int)))]), AV.d (D.int IntKind.i64 (↑n : Int)), AV.d (D.int IntKind.i64 (0 : Int))] = AV.tup [AV.d (D.agg [D.sl (List.map ceD (Ar.mk (l.set n (Ce.mk true v (0 : Int))) c.l (u + (1 : Int))).l), D.int IntKind.i64 (Ar.mk (l.set n (Ce.mk true v (0 : Int))) c.l (u + (1 : Int))).f, D.int IntKind.i64 (Ar.mk (l.set n (Ce.mk true v (0 : Int))) c.l (u + (1 : Int))).u]), AV.d (D.int IntKind.i64 (↑n : Int)), AV.d (D.int IntKind.i64 (0 : Int))]) ∧ (True))))))))))))) (h := {G := [(19, gAns (.d (.int .i64 0)))], H := [(1, [(1, .call [] (.agg [.own 0 3, .d (.int .i64 n), .d (.int .i64 u)]) [.row 3 (l.map ceD)])]), (5, [(2, .val (.bool false))]), (10, [(1, .val (.bool false))])], els := [(47, .el (ceD c)), (54, .el (ceD c))]}) (subs := []) (ws := []) (ρ := []) (by kernel_rfl) ?_
  have k0 := own29 ⟨l, n, u⟩ hl
  have k1 := chk19 ⟨l, n, u⟩ hl
  rw [he] at k1
  have hj := get_lt hn
  have hw : IntKind.i64.wrap (u + 1) = u + 1 := by rw [IntKind.wrap_i64]; omega
  simp only [hw, List.length_map]
  repeat' (first | with_reducible exact True.intro | with_reducible refine And.intro ?_ ?_ | with_reducible refine condP_dec (fun _ => ?_) (fun _ => ?_) | with_reducible refine condP_eq (fun _ => ?_) (fun _ => ?_) | with_reducible refine condP_ne (fun _ => ?_) (fun _ => ?_) | with_reducible refine condP_not (condP_dec (fun _ => ?_) (fun _ => ?_)) | with_reducible refine condP_not (condP_eq (fun _ => ?_) (fun _ => ?_)) | with_reducible refine condP_not (condP_intro (fun _ => ?_) (fun _ => ?_)) | with_reducible refine condP_intro (fun _ => ?_) (fun _ => ?_))
  all_goals first | exact k0 | exact k1 | exact k2 | rfl | exact el_map hn rfl | omega | exact dyes (by omega) | exact dno (by omega) | (refine congrArg D.bool ?_; simp_all; done) | (simp [List.map_set]; done) | (simp; omega) | (intro e he; simp [chunk] at he; subst he; rfl) | (simp [arD, ceD]; done) | (simp [arD, ceD, List.map_set]; done) | skip

set_option maxRecDepth 100000 in
set_option maxHeartbeats 1000000 in
theorem give11n (s : Ar) (hl : s.l.length < 1000000) (a e : Int) (he : aChk s = e) (h0 : e ≠ 0) : FnOK Try.prog 11 ([.d (arD s), .d (.int .i64 a)]) ([]) (.tup [.d (arD s), .d (.int .i64 e)]) ([]) := by
  refine fnOK_wp (p := (FnOK Try.prog (29 : Nat) [AV.d (D.agg [D.sl (List.map ceD s.l), D.int IntKind.i64 s.f, D.int IntKind.i64 s.u])] [] (AV.agg [AV.own (0 : Nat) (3 : Nat), AV.d (D.int IntKind.i64 s.f), AV.d (D.int IntKind.i64 s.u)]) [Ob.row (3 : Nat) (List.map ceD s.l)]) ∧ ((FnOK Try.prog (19 : Nat) [AV.d (D.agg [D.sl (List.map ceD s.l), D.int IntKind.i64 s.f, D.int IntKind.i64 s.u])] [] (AV.d (D.int IntKind.i64 e)) []) ∧ ((D.bool (e != (0 : Int)) = D.bool true) ∧ ((AV.tup [AV.d (D.agg [D.sl (List.map ceD s.l), D.int IntKind.i64 s.f, D.int IntKind.i64 s.u]), AV.d (D.int IntKind.i64 e)] = AV.tup [AV.d (D.agg [D.sl (List.map ceD s.l), D.int IntKind.i64 s.f, D.int IntKind.i64 s.u]), AV.d (D.int IntKind.i64 e)]) ∧ (True))))) (h := {G := [(19, gAns (.d (.int .i64 e)))], H := [(1, [(1, .call [] (.agg [.own 0 3, .d (.int .i64 s.f), .d (.int .i64 s.u)]) [.row 3 (s.l.map ceD)])]), (3, [(1, .val (.bool true))])]}) (subs := []) (ws := []) (ρ := []) (by kernel_rfl) ?_
  have k0 := own29 s hl
  have k1 := chk19 s hl
  rw [he] at k1
  repeat' (first | with_reducible exact True.intro | with_reducible refine And.intro ?_ ?_ | with_reducible refine condP_dec (fun _ => ?_) (fun _ => ?_) | with_reducible refine condP_eq (fun _ => ?_) (fun _ => ?_) | with_reducible refine condP_ne (fun _ => ?_) (fun _ => ?_) | with_reducible refine condP_not (condP_dec (fun _ => ?_) (fun _ => ?_)) | with_reducible refine condP_not (condP_eq (fun _ => ?_) (fun _ => ?_)) | with_reducible refine condP_not (condP_intro (fun _ => ?_) (fun _ => ?_)) | with_reducible refine condP_intro (fun _ => ?_) (fun _ => ?_))
  all_goals first | exact k0 | exact k1 | exact k2 | rfl | exact el_map hn rfl | omega | exact dyes (by omega) | exact dno (by omega) | (refine congrArg D.bool ?_; simp_all; done) | (simp [List.map_set]; done) | (simp; omega) | (intro e he; simp [chunk] at he; subst he; rfl) | (simp [arD, ceD]; done) | (simp [arD, ceD, List.map_set]; done) | skip

set_option maxRecDepth 100000 in
set_option maxHeartbeats 1000000 in
theorem give11f (s : Ar) (hl : s.l.length < 1000000) (a : Int) (he : aChk s = 0) (h0 : isLive s a = false) : FnOK Try.prog 11 ([.d (arD s), .d (.int .i64 a)]) ([]) (.tup [.d (arD s), .d (.int .i64 6)]) ([]) := by
  refine fnOK_wp (p := (FnOK Try.prog (29 : Nat) [AV.d (D.agg [D.sl (List.map ceD s.l), D.int IntKind.i64 s.f, D.int IntKind.i64 s.u])] [] (AV.agg [AV.own (0 : Nat) (3 : Nat), AV.d (D.int IntKind.i64 s.f), AV.d (D.int IntKind.i64 s.u)]) [Ob.row (3 : Nat) (List.map ceD s.l)]) ∧ ((FnOK Try.prog (19 : Nat) [AV.d (D.agg [D.sl (List.map ceD s.l), D.int IntKind.i64 s.f, D.int IntKind.i64 s.u])] [] (AV.d (D.int IntKind.i64 (0 : Int))) []) ∧ ((FnOK Try.prog (31 : Nat) [AV.d (D.agg [D.sl (List.map ceD s.l), D.int IntKind.i64 s.f, D.int IntKind.i64 s.u]), AV.d (D.int IntKind.i64 a)] [] (AV.d (D.bool false)) []) ∧ ((AV.tup [AV.d (D.agg [D.sl (List.map ceD s.l), D.int IntKind.i64 s.f, D.int IntKind.i64 s.u]), AV.d (D.int IntKind.i64 (6 : Int))] = AV.tup [AV.d (D.agg [D.sl (List.map ceD s.l), D.int IntKind.i64 s.f, D.int IntKind.i64 s.u]), AV.d (D.int IntKind.i64 (6 : Int))]) ∧ (True))))) (h := {G := [(19, gAns (.d (.int .i64 0))), (31, gAns (.d (.bool false)))], H := [(1, [(1, .call [] (.agg [.own 0 3, .d (.int .i64 s.f), .d (.int .i64 s.u)]) [.row 3 (s.l.map ceD)])])]}) (subs := []) (ws := []) (ρ := []) (by kernel_rfl) ?_
  have k0 := own29 s hl
  have k1 := chk19 s hl
  rw [he] at k1
  have k2 := live31 s a
  rw [h0] at k2
  repeat' (first | with_reducible exact True.intro | with_reducible refine And.intro ?_ ?_ | with_reducible refine condP_dec (fun _ => ?_) (fun _ => ?_) | with_reducible refine condP_eq (fun _ => ?_) (fun _ => ?_) | with_reducible refine condP_ne (fun _ => ?_) (fun _ => ?_) | with_reducible refine condP_not (condP_dec (fun _ => ?_) (fun _ => ?_)) | with_reducible refine condP_not (condP_eq (fun _ => ?_) (fun _ => ?_)) | with_reducible refine condP_not (condP_intro (fun _ => ?_) (fun _ => ?_)) | with_reducible refine condP_intro (fun _ => ?_) (fun _ => ?_))
  all_goals first | exact k0 | exact k1 | exact k2 | rfl | exact el_map hn rfl | omega | exact dyes (by omega) | exact dno (by omega) | (refine congrArg D.bool ?_; simp_all; done) | (simp [List.map_set]; done) | (simp; omega) | (intro e he; simp [chunk] at he; subst he; rfl) | (simp [arD, ceD]; done) | (simp [arD, ceD, List.map_set]; done) | skip

set_option maxRecDepth 100000 in
set_option maxHeartbeats 1000000 in
theorem give11y (s : Ar) (hl : s.l.length < 1000000) (he : aChk s = 0) (h0 : 0 ≤ s.u ∧ s.u ≤ 64) (n : Nat) (c : Ce) (hn : s.l[n]? = some c) (hv : c.v = true) : FnOK Try.prog 11 ([.d (arD s), .d (.int .i64 n)]) ([]) (.tup [.d (arD ⟨s.l.set n ⟨false, 0, s.f⟩, n, s.u - 1⟩), .d (.int .i64 0)]) ([]) := by
  refine fnOK_wp (p := (FnOK Try.prog (29 : Nat) [AV.d (D.agg [D.sl (List.map ceD s.l), D.int IntKind.i64 s.f, D.int IntKind.i64 s.u])] [] (AV.agg [AV.own (0 : Nat) (3 : Nat), AV.d (D.int IntKind.i64 s.f), AV.d (D.int IntKind.i64 s.u)]) [Ob.row (3 : Nat) (List.map ceD s.l)]) ∧ ((FnOK Try.prog (19 : Nat) [AV.d (D.agg [D.sl (List.map ceD s.l), D.int IntKind.i64 s.f, D.int IntKind.i64 s.u])] [] (AV.d (D.int IntKind.i64 (0 : Int))) []) ∧ ((FnOK Try.prog (31 : Nat) [AV.d (D.agg [D.sl (List.map ceD s.l), D.int IntKind.i64 s.f, D.int IntKind.i64 s.u]), AV.d (D.int IntKind.i64 (↑n : Int))] [] (AV.d (D.bool true)) []) ∧ (((0 : Int) ≤ (↑n : Int) ∧ (↑n : Int) < (↑(List.map ceD s.l).length : Int)) ∧ (((3 : Nat) = (3 : Nat)) ∧ (((List.map ceD s.l)[(↑n : Int).toNat]? = some (D.agg [D.bool c.v, D.int IntKind.i64 c.x, D.int IntKind.i64 c.l])) ∧ ((AV.tup [AV.d (D.agg [D.sl ((List.map ceD s.l).set (↑n : Int).toNat (D.agg (List.take (0 : Nat) [D.bool c.v, D.int IntKind.i64 c.x, D.int IntKind.i64 c.l] ++ [D.bool false, D.int IntKind.i64 (0 : Int), D.int IntKind.i64 s.f] ++ List.drop ((0 : Nat) + [D.bool false, D.int IntKind.i64 (0 : Int), D.int IntKind.i64 s.f].length) [D.bool c.v, D.int IntKind.i64 c.x, D.int IntKind.i64 c.l]))), D.int IntKind.i64 (↑n : Int), D.int IntKind.i64 (IntKind.i64.wrap (s.u - (1 : Int)))]), AV.d (D.int IntKind.i64 (0 : Int))] = AV.tup [AV.d (D.agg [D.sl (List.map ceD (Ar.mk (s.l.set n (Ce.mk false (0 : Int) s.f)) (↑n : Int) (s.u - (1 : Int))).l), D.int IntKind.i64 (Ar.mk (s.l.set n (Ce.mk false (0 : Int) s.f)) (↑n : Int) (s.u - (1 : Int))).f, D.int IntKind.i64 (Ar.mk (s.l.set n (Ce.mk false (0 : Int) s.f)) (↑n : Int) (s.u - (1 : Int))).u]), AV.d (D.int IntKind.i64 (0 : Int))]) ∧ (True)))))))) (h := {G := [(19, gAns (.d (.int .i64 0))), (31, gAns (.d (.bool true)))], H := [(1, [(1, .call [] (.agg [.own 0 3, .d (.int .i64 s.f), .d (.int .i64 s.u)]) [.row 3 (s.l.map ceD)])])], els := [(27, .el (ceD c))]}) (subs := []) (ws := []) (ρ := []) (by kernel_rfl) ?_
  have k0 := own29 s hl
  have k1 := chk19 s hl
  rw [he] at k1
  have k2 := live31 s n
  rw [isLive_of hn, hv] at k2
  have hj := get_lt hn
  have hw : IntKind.i64.wrap (s.u - 1) = s.u - 1 := by rw [IntKind.wrap_i64]; omega
  simp only [hw, List.length_map]
  repeat' (first | with_reducible exact True.intro | with_reducible refine And.intro ?_ ?_ | with_reducible refine condP_dec (fun _ => ?_) (fun _ => ?_) | with_reducible refine condP_eq (fun _ => ?_) (fun _ => ?_) | with_reducible refine condP_ne (fun _ => ?_) (fun _ => ?_) | with_reducible refine condP_not (condP_dec (fun _ => ?_) (fun _ => ?_)) | with_reducible refine condP_not (condP_eq (fun _ => ?_) (fun _ => ?_)) | with_reducible refine condP_not (condP_intro (fun _ => ?_) (fun _ => ?_)) | with_reducible refine condP_intro (fun _ => ?_) (fun _ => ?_))
  all_goals first | exact k0 | exact k1 | exact k2 | rfl | exact el_map hn rfl | omega | exact dyes (by omega) | exact dno (by omega) | (refine congrArg D.bool ?_; simp_all; done) | (simp [List.map_set]; done) | (simp; omega) | (intro e he; simp [chunk] at he; subst he; rfl) | (simp [arD, ceD]; done) | (simp [arD, ceD, List.map_set]; done) | skip

set_option maxRecDepth 100000 in
set_option maxHeartbeats 1000000 in
theorem set13n (s : Ar) (hl : s.l.length < 1000000) (a v e : Int) (he : aChk s = e) (h0 : e ≠ 0) : FnOK Try.prog 13 ([.d (arD s), .d (.int .i64 a), .d (.int .i64 v)]) ([]) (.tup [.d (arD s), .d (.int .i64 e)]) ([]) := by
  refine fnOK_wp (p := (FnOK Try.prog (29 : Nat) [AV.d (D.agg [D.sl (List.map ceD s.l), D.int IntKind.i64 s.f, D.int IntKind.i64 s.u])] [] (AV.agg [AV.own (0 : Nat) (3 : Nat), AV.d (D.int IntKind.i64 s.f), AV.d (D.int IntKind.i64 s.u)]) [Ob.row (3 : Nat) (List.map ceD s.l)]) ∧ ((FnOK Try.prog (19 : Nat) [AV.d (D.agg [D.sl (List.map ceD s.l), D.int IntKind.i64 s.f, D.int IntKind.i64 s.u])] [] (AV.d (D.int IntKind.i64 e)) []) ∧ ((D.bool (e != (0 : Int)) = D.bool true) ∧ ((AV.tup [AV.d (D.agg [D.sl (List.map ceD s.l), D.int IntKind.i64 s.f, D.int IntKind.i64 s.u]), AV.d (D.int IntKind.i64 e)] = AV.tup [AV.d (D.agg [D.sl (List.map ceD s.l), D.int IntKind.i64 s.f, D.int IntKind.i64 s.u]), AV.d (D.int IntKind.i64 e)]) ∧ (True))))) (h := {G := [(19, gAns (.d (.int .i64 e)))], H := [(1, [(1, .call [] (.agg [.own 0 3, .d (.int .i64 s.f), .d (.int .i64 s.u)]) [.row 3 (s.l.map ceD)])]), (3, [(1, .val (.bool true))])]}) (subs := []) (ws := []) (ρ := []) (by kernel_rfl) ?_
  have k0 := own29 s hl
  have k1 := chk19 s hl
  rw [he] at k1
  repeat' (first | with_reducible exact True.intro | with_reducible refine And.intro ?_ ?_ | with_reducible refine condP_dec (fun _ => ?_) (fun _ => ?_) | with_reducible refine condP_eq (fun _ => ?_) (fun _ => ?_) | with_reducible refine condP_ne (fun _ => ?_) (fun _ => ?_) | with_reducible refine condP_not (condP_dec (fun _ => ?_) (fun _ => ?_)) | with_reducible refine condP_not (condP_eq (fun _ => ?_) (fun _ => ?_)) | with_reducible refine condP_not (condP_intro (fun _ => ?_) (fun _ => ?_)) | with_reducible refine condP_intro (fun _ => ?_) (fun _ => ?_))
  all_goals first | exact k0 | exact k1 | exact k2 | rfl | exact el_map hn rfl | omega | exact dyes (by omega) | exact dno (by omega) | (refine congrArg D.bool ?_; simp_all; done) | (simp [List.map_set]; done) | (simp; omega) | (intro e he; simp [chunk] at he; subst he; rfl) | (simp [arD, ceD]; done) | (simp [arD, ceD, List.map_set]; done) | skip

set_option maxRecDepth 100000 in
set_option maxHeartbeats 1000000 in
theorem set13f (s : Ar) (hl : s.l.length < 1000000) (a v : Int) (he : aChk s = 0) (h0 : isLive s a = false) : FnOK Try.prog 13 ([.d (arD s), .d (.int .i64 a), .d (.int .i64 v)]) ([]) (.tup [.d (arD s), .d (.int .i64 6)]) ([]) := by
  refine fnOK_wp (p := (FnOK Try.prog (29 : Nat) [AV.d (D.agg [D.sl (List.map ceD s.l), D.int IntKind.i64 s.f, D.int IntKind.i64 s.u])] [] (AV.agg [AV.own (0 : Nat) (3 : Nat), AV.d (D.int IntKind.i64 s.f), AV.d (D.int IntKind.i64 s.u)]) [Ob.row (3 : Nat) (List.map ceD s.l)]) ∧ ((FnOK Try.prog (19 : Nat) [AV.d (D.agg [D.sl (List.map ceD s.l), D.int IntKind.i64 s.f, D.int IntKind.i64 s.u])] [] (AV.d (D.int IntKind.i64 (0 : Int))) []) ∧ ((FnOK Try.prog (31 : Nat) [AV.d (D.agg [D.sl (List.map ceD s.l), D.int IntKind.i64 s.f, D.int IntKind.i64 s.u]), AV.d (D.int IntKind.i64 a)] [] (AV.d (D.bool false)) []) ∧ ((AV.tup [AV.d (D.agg [D.sl (List.map ceD s.l), D.int IntKind.i64 s.f, D.int IntKind.i64 s.u]), AV.d (D.int IntKind.i64 (6 : Int))] = AV.tup [AV.d (D.agg [D.sl (List.map ceD s.l), D.int IntKind.i64 s.f, D.int IntKind.i64 s.u]), AV.d (D.int IntKind.i64 (6 : Int))]) ∧ (True))))) (h := {G := [(19, gAns (.d (.int .i64 0))), (31, gAns (.d (.bool false)))], H := [(1, [(1, .call [] (.agg [.own 0 3, .d (.int .i64 s.f), .d (.int .i64 s.u)]) [.row 3 (s.l.map ceD)])])]}) (subs := []) (ws := []) (ρ := []) (by kernel_rfl) ?_
  have k0 := own29 s hl
  have k1 := chk19 s hl
  rw [he] at k1
  have k2 := live31 s a
  rw [h0] at k2
  repeat' (first | with_reducible exact True.intro | with_reducible refine And.intro ?_ ?_ | with_reducible refine condP_dec (fun _ => ?_) (fun _ => ?_) | with_reducible refine condP_eq (fun _ => ?_) (fun _ => ?_) | with_reducible refine condP_ne (fun _ => ?_) (fun _ => ?_) | with_reducible refine condP_not (condP_dec (fun _ => ?_) (fun _ => ?_)) | with_reducible refine condP_not (condP_eq (fun _ => ?_) (fun _ => ?_)) | with_reducible refine condP_not (condP_intro (fun _ => ?_) (fun _ => ?_)) | with_reducible refine condP_intro (fun _ => ?_) (fun _ => ?_))
  all_goals first | exact k0 | exact k1 | exact k2 | rfl | exact el_map hn rfl | omega | exact dyes (by omega) | exact dno (by omega) | (refine congrArg D.bool ?_; simp_all; done) | (simp [List.map_set]; done) | (simp; omega) | (intro e he; simp [chunk] at he; subst he; rfl) | (simp [arD, ceD]; done) | (simp [arD, ceD, List.map_set]; done) | skip

set_option maxRecDepth 100000 in
set_option maxHeartbeats 1000000 in
theorem set13y (s : Ar) (hl : s.l.length < 1000000) (v : Int) (he : aChk s = 0) (n : Nat) (c : Ce) (hn : s.l[n]? = some c) (hv : c.v = true) : FnOK Try.prog 13 ([.d (arD s), .d (.int .i64 n), .d (.int .i64 v)]) ([]) (.tup [.d (arD ⟨s.l.set n ⟨c.v, v, c.l⟩, s.f, s.u⟩), .d (.int .i64 0)]) ([]) := by
  refine fnOK_wp (p := (FnOK Try.prog (29 : Nat) [AV.d (D.agg [D.sl (List.map ceD s.l), D.int IntKind.i64 s.f, D.int IntKind.i64 s.u])] [] (AV.agg [AV.own (0 : Nat) (3 : Nat), AV.d (D.int IntKind.i64 s.f), AV.d (D.int IntKind.i64 s.u)]) [Ob.row (3 : Nat) (List.map ceD s.l)]) ∧ ((FnOK Try.prog (19 : Nat) [AV.d (D.agg [D.sl (List.map ceD s.l), D.int IntKind.i64 s.f, D.int IntKind.i64 s.u])] [] (AV.d (D.int IntKind.i64 (0 : Int))) []) ∧ ((FnOK Try.prog (31 : Nat) [AV.d (D.agg [D.sl (List.map ceD s.l), D.int IntKind.i64 s.f, D.int IntKind.i64 s.u]), AV.d (D.int IntKind.i64 (↑n : Int))] [] (AV.d (D.bool true)) []) ∧ (((0 : Int) ≤ (↑n : Int) ∧ (↑n : Int) < (↑(List.map ceD s.l).length : Int)) ∧ (((↑n : Int).toNat < (List.map ceD s.l).length) ∧ (((3 : Nat) = (3 : Nat)) ∧ (((List.map ceD s.l)[(↑n : Int).toNat]? = some (D.agg [D.bool c.v, D.int IntKind.i64 c.x, D.int IntKind.i64 c.l])) ∧ ((AV.tup [AV.d (D.agg [D.sl ((List.map ceD s.l).set (↑n : Int).toNat (D.agg (List.take (1 : Nat) [D.bool c.v, D.int IntKind.i64 c.x, D.int IntKind.i64 c.l] ++ [D.int IntKind.i64 v] ++ List.drop ((1 : Nat) + [D.int IntKind.i64 v].length) [D.bool c.v, D.int IntKind.i64 c.x, D.int IntKind.i64 c.l]))), D.int IntKind.i64 s.f, D.int IntKind.i64 s.u]), AV.d (D.int IntKind.i64 (0 : Int))] = AV.tup [AV.d (D.agg [D.sl (List.map ceD (Ar.mk (s.l.set n (Ce.mk c.v v c.l)) s.f s.u).l), D.int IntKind.i64 (Ar.mk (s.l.set n (Ce.mk c.v v c.l)) s.f s.u).f, D.int IntKind.i64 (Ar.mk (s.l.set n (Ce.mk c.v v c.l)) s.f s.u).u]), AV.d (D.int IntKind.i64 (0 : Int))]) ∧ (True))))))))) (h := {G := [(19, gAns (.d (.int .i64 0))), (31, gAns (.d (.bool true)))], H := [(1, [(1, .call [] (.agg [.own 0 3, .d (.int .i64 s.f), .d (.int .i64 s.u)]) [.row 3 (s.l.map ceD)])])], els := [(28, .el (ceD c))]}) (subs := []) (ws := []) (ρ := []) (by kernel_rfl) ?_
  have k0 := own29 s hl
  have k1 := chk19 s hl
  rw [he] at k1
  have k2 := live31 s n
  rw [isLive_of hn, hv] at k2
  have hj := get_lt hn
  simp only [List.length_map]
  repeat' (first | with_reducible exact True.intro | with_reducible refine And.intro ?_ ?_ | with_reducible refine condP_dec (fun _ => ?_) (fun _ => ?_) | with_reducible refine condP_eq (fun _ => ?_) (fun _ => ?_) | with_reducible refine condP_ne (fun _ => ?_) (fun _ => ?_) | with_reducible refine condP_not (condP_dec (fun _ => ?_) (fun _ => ?_)) | with_reducible refine condP_not (condP_eq (fun _ => ?_) (fun _ => ?_)) | with_reducible refine condP_not (condP_intro (fun _ => ?_) (fun _ => ?_)) | with_reducible refine condP_intro (fun _ => ?_) (fun _ => ?_))
  all_goals first | exact k0 | exact k1 | exact k2 | rfl | exact el_map hn rfl | omega | exact dyes (by omega) | exact dno (by omega) | (refine congrArg D.bool ?_; simp_all; done) | (simp [List.map_set]; done) | (simp; omega) | (intro e he; simp [chunk] at he; subst he; rfl) | (simp [arD, ceD]; done) | (simp [arD, ceD, List.map_set]; done) | skip

/-- What Check's answer says. -/
theorem chk_u {s : Ar} (h : aChk s = 0) : 0 ≤ s.u ∧ s.u ≤ 64 ∧ -1 ≤ s.f ∧ s.f < (s.l.length : Int) ∧ s.l.length ≤ 64 := by
  obtain ⟨sp, a, b, -, -, -, -, g, -⟩ := chk_ok.1 h
  have := aN_le s.l
  omega
theorem chk_odd {s : Ar} (h : aChk s = 0) {n : Nat} {c : Ce} (hn : s.l[n]? = some c) (hv : c.v = true) : c.l = 0 := by
  obtain ⟨sp, -, -, -, d, -⟩ := chk_ok.1 h
  have := d c (get_mem hn)
  unfold aOdd at this
  rw [hv] at this
  simpa using this
theorem take9 (s : Ar) (hl : s.l.length < 1000000) (v : Int) : FnOK Try.prog 9 [.d (arD s), .d (.int .i64 v)] [] (.tup [.d (arD (aTake s v).1), .d (.int .i64 (aTake s v).2.1), .d (.int .i64 (aTake s v).2.2)]) [] := by
  unfold aTake
  by_cases h : aChk s = 0
  · have hu := chk_u h
    rw [if_neg (not_not_intro h)]
    by_cases h1 : 64 ≤ s.u
    · rw [if_pos h1]; exact take9f s hl v h h1
    · rw [if_neg h1]
      by_cases h2 : s.f = -1
      · rw [if_pos h2]; exact take9a s hl v h (by omega) hu.1 h2
      · rw [if_neg h2]
        obtain ⟨l, f, u⟩ := s
        simp only at hu h1 h2 hl ⊢
        obtain ⟨n, rfl⟩ := Int.eq_ofNat_of_zero_le (show 0 ≤ f by omega)
        have hn : n < l.length := by omega
        rw [linkAt_of (get_of hn)]
        exact take9s l u n hl v h (by omega) hu.1 _ (get_of hn)
  · rw [if_pos h]; exact take9n s hl v _ rfl h
theorem give11 (s : Ar) (hl : s.l.length < 1000000) (a : Int) : FnOK Try.prog 11 [.d (arD s), .d (.int .i64 a)] [] (.tup [.d (arD (aGive s a).1), .d (.int .i64 (aGive s a).2)]) [] := by
  unfold aGive
  by_cases h : aChk s = 0
  · have hu := chk_u h
    rw [if_neg (not_not_intro h)]
    cases h1 : isLive s a
    · rw [if_pos rfl]; exact give11f s hl a h h1
    · rw [if_neg (by simp)]
      obtain ⟨n, c, rfl, hn, hv⟩ := isLive_yes h1
      exact give11y s hl h ⟨hu.1, hu.2.1⟩ n c hn hv
  · rw [if_pos h]; exact give11n s hl a _ rfl h
theorem set13 (s : Ar) (hl : s.l.length < 1000000) (a v : Int) : FnOK Try.prog 13 [.d (arD s), .d (.int .i64 a), .d (.int .i64 v)] [] (.tup [.d (arD (aSet s a v).1), .d (.int .i64 (aSet s a v).2)]) [] := by
  unfold aSet
  by_cases h : aChk s = 0
  · rw [if_neg (not_not_intro h)]
    cases h1 : isLive s a
    · rw [if_pos rfl]; exact set13f s hl a v h h1
    · rw [if_neg (by simp)]
      obtain ⟨n, c, rfl, hn, hv⟩ := isLive_yes h1
      have := set13y s hl v h n c hn hv
      rw [hv, chk_odd h hn hv] at this
      exact this
  · rw [if_pos h]; exact set13n s hl a v _ rfl h
end Go.Proofs.Ytgdifegembfjoaa
