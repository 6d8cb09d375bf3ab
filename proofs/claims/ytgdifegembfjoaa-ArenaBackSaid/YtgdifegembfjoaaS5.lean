/-
laws 18: the document's; what is told of cells; cells over and back.
-/
import Derived.Test.YtgdifegembfjoaaS4
set_option linter.unusedSimpArgs false
set_option linter.unusedVariables false
namespace Go.Proofs.Ytgdifegembfjoaa
open Sx Go.RowKit

set_option maxRecDepth 100000 in
set_option maxHeartbeats 1000000 in
theorem with30 (s : Ar) (n : Nat) (c x : Ce) (hn : s.l[n]? = some c) (hl : s.l.length < 1000000) : FnOK Try.prog 30 ([.d (arD s), .d (.int .i64 n), .d (ceD x)]) ([]) (.d (arD ⟨s.l.set n x, s.f, s.u⟩)) ([]) := by
  refine fnOK_wp (p := (((0 : Nat) + (List.map ceD s.l).length) * (24 : Nat) ≤ (140737488355328 : Nat)) ∧ ((∀ (e : D), e ∈ List.map ceD s.l → e.cells.length = (3 : Nat)) ∧ (((0 : Int) ≤ (↑n : Int) ∧ (↑n : Int) < (↑([] ++ List.map ceD s.l).length : Int)) ∧ (((3 : Nat) = (3 : Nat)) ∧ ((([] ++ List.map ceD s.l)[(↑n : Int).toNat]? = some (D.agg [D.bool c.v, D.int IntKind.i64 c.x, D.int IntKind.i64 c.l])) ∧ ((AV.d (D.agg [D.sl (([] ++ List.map ceD s.l).set (↑n : Int).toNat (D.agg (List.take (0 : Nat) [D.bool c.v, D.int IntKind.i64 c.x, D.int IntKind.i64 c.l] ++ [D.bool x.v, D.int IntKind.i64 x.x, D.int IntKind.i64 x.l] ++ List.drop ((0 : Nat) + [D.bool x.v, D.int IntKind.i64 x.x, D.int IntKind.i64 x.l].length) [D.bool c.v, D.int IntKind.i64 c.x, D.int IntKind.i64 c.l]))), D.int IntKind.i64 s.f, D.int IntKind.i64 s.u]) = AV.d (D.agg [D.sl (List.map ceD (Ar.mk (s.l.set n x) s.f s.u).l), D.int IntKind.i64 (Ar.mk (s.l.set n x) s.f s.u).f, D.int IntKind.i64 (Ar.mk (s.l.set n x) s.f s.u).u])) ∧ (True))))))) (h := {els := [(15, .el (ceD c))]}) (subs := []) (ws := []) (ρ := []) (by kernel_rfl) ?_
  have hj := get_lt hn
  have hm : (s.l.map ceD).length = s.l.length := List.length_map ..
  repeat' (first | with_reducible exact True.intro | with_reducible refine And.intro ?_ ?_ | with_reducible refine condP_dec (fun _ => ?_) (fun _ => ?_) | with_reducible refine condP_eq (fun _ => ?_) (fun _ => ?_) | with_reducible refine condP_ne (fun _ => ?_) (fun _ => ?_) | with_reducible refine condP_not (condP_dec (fun _ => ?_) (fun _ => ?_)) | with_reducible refine condP_not (condP_eq (fun _ => ?_) (fun _ => ?_)) | with_reducible refine condP_not (condP_intro (fun _ => ?_) (fun _ => ?_)) | with_reducible refine condP_intro (fun _ => ?_) (fun _ => ?_))
  all_goals first | exact el_map hn rfl | exact ceD_sz _ | rfl | (rw [hm]; omega) | omega | (simp; omega) | (simp [arD, ceD, List.map_set]; done) | skip

set_option maxRecDepth 100000 in
set_option maxHeartbeats 1000000 in
theorem take10n (s : Ar) (hl : s.l.length < 1000000) (v e : Int) (he : aChk s = e) (h0 : e ≠ 0) : FnOK Try.prog 10 ([.d (arD s), .d (.int .i64 v)]) ([]) (.tup [.d (arD s), .d (.int .i64 0), .d (.int .i64 e)]) ([]) := by
  refine fnOK_wp (p := (FnOK Try.prog (20 : Nat) [AV.d (D.agg [D.sl (List.map ceD s.l), D.int IntKind.i64 s.f, D.int IntKind.i64 s.u])] [] (AV.d (D.int IntKind.i64 e)) []) ∧ ((D.bool (e != (0 : Int)) = D.bool true) ∧ ((AV.tup [AV.d (D.agg [D.sl (List.map ceD s.l), D.int IntKind.i64 s.f, D.int IntKind.i64 s.u]), AV.d (D.int IntKind.i64 (0 : Int)), AV.d (D.int IntKind.i64 e)] = AV.tup [AV.d (D.agg [D.sl (List.map ceD s.l), D.int IntKind.i64 s.f, D.int IntKind.i64 s.u]), AV.d (D.int IntKind.i64 (0 : Int)), AV.d (D.int IntKind.i64 e)]) ∧ (True)))) (h := {G := [(20, gAns (.d (.int .i64 e)))], H := [(2, [(1, .val (.bool true))])]}) (subs := []) (ws := []) (ρ := []) (by kernel_rfl) ?_
  have k1 := chk20 s hl
  rw [he] at k1
  repeat' (first | with_reducible exact True.intro | with_reducible refine And.intro ?_ ?_ | with_reducible refine condP_dec (fun _ => ?_) (fun _ => ?_) | with_reducible refine condP_eq (fun _ => ?_) (fun _ => ?_) | with_reducible refine condP_ne (fun _ => ?_) (fun _ => ?_) | with_reducible refine condP_not (condP_dec (fun _ => ?_) (fun _ => ?_)) | with_reducible refine condP_not (condP_eq (fun _ => ?_) (fun _ => ?_)) | with_reducible refine condP_not (condP_intro (fun _ => ?_) (fun _ => ?_)) | with_reducible refine condP_intro (fun _ => ?_) (fun _ => ?_))
  all_goals first | exact k1 | exact k2 | exact k3 | rfl | exact el_map hn rfl | omega | exact dyes (by omega) | exact dno (by omega) | (refine congrArg D.bool ?_; simp_all; done) | (simp [List.map_set]; done) | exact ceD_sz _ | (simp; omega) | (intro e he; simp [chunk] at he; subst he; rfl) | (simp [arD, ceD]; done) | (simp [arD, ceD, List.map_set]; done) | (simp [arD, ceD, IntKind.wrap_i64]; omega) | skip

set_option maxRecDepth 100000 in
set_option maxHeartbeats 1000000 in
theorem take10f (s : Ar) (hl : s.l.length < 1000000) (v : Int) (he : aChk s = 0) (h0 : 64 ≤ s.u) : FnOK Try.prog 10 ([.d (arD s), .d (.int .i64 v)]) ([]) (.tup [.d (arD s), .d (.int .i64 0), .d (.int .i64 7)]) ([]) := by
  refine fnOK_wp (p := (FnOK Try.prog (20 : Nat) [AV.d (D.agg [D.sl (List.map ceD s.l), D.int IntKind.i64 s.f, D.int IntKind.i64 s.u])] [] (AV.d (D.int IntKind.i64 (0 : Int))) []) ∧ ((D.bool (decide (s.u ≥ (64 : Int))) = D.bool true) ∧ ((AV.tup [AV.d (D.agg [D.sl (List.map ceD s.l), D.int IntKind.i64 s.f, D.int IntKind.i64 s.u]), AV.d (D.int IntKind.i64 (0 : Int)), AV.d (D.int IntKind.i64 (7 : Int))] = AV.tup [AV.d (D.agg [D.sl (List.map ceD s.l), D.int IntKind.i64 s.f, D.int IntKind.i64 s.u]), AV.d (D.int IntKind.i64 (0 : Int)), AV.d (D.int IntKind.i64 (7 : Int))]) ∧ (True)))) (h := {G := [(20, gAns (.d (.int .i64 0)))], H := [(4, [(2, .val (.bool true))])]}) (subs := []) (ws := []) (ρ := []) (by kernel_rfl) ?_
  have k1 := chk20 s hl
  rw [he] at k1
  repeat' (first | with_reducible exact True.intro | with_reducible refine And.intro ?_ ?_ | with_reducible refine condP_dec (fun _ => ?_) (fun _ => ?_) | with_reducible refine condP_eq (fun _ => ?_) (fun _ => ?_) | with_reducible refine condP_ne (fun _ => ?_) (fun _ => ?_) | with_reducible refine condP_not (condP_dec (fun _ => ?_) (fun _ => ?_)) | with_reducible refine condP_not (condP_eq (fun _ => ?_) (fun _ => ?_)) | with_reducible refine condP_not (condP_intro (fun _ => ?_) (fun _ => ?_)) | with_reducible refine condP_intro (fun _ => ?_) (fun _ => ?_))
  all_goals first | exact k1 | exact k2 | exact k3 | rfl | exact el_map hn rfl | omega | exact dyes (by omega) | exact dno (by omega) | (refine congrArg D.bool ?_; simp_all; done) | (simp [List.map_set]; done) | exact ceD_sz _ | (simp; omega) | (intro e he; simp [chunk] at he; subst he; rfl) | (simp [arD, ceD]; done) | (simp [arD, ceD, List.map_set]; done) | (simp [arD, ceD, IntKind.wrap_i64]; omega) | skip

set_option maxRecDepth 100000 in
set_option maxHeartbeats 1000000 in
theorem take10a (s : Ar) (hl : s.l.length < 1000000) (v : Int) (he : aChk s = 0) (h0 : s.u < 64) (h1 : 0 ≤ s.u) (hf : s.f = -1) : FnOK Try.prog 10 ([.d (arD s), .d (.int .i64 v)]) ([]) (.tup [.d (arD ⟨s.l ++ [⟨true, v, 0⟩], s.f, s.u + 1⟩), .d (.int .i64 s.l.length), .d (.int .i64 0)]) ([]) := by
  refine fnOK_wp (p := (FnOK Try.prog (20 : Nat) [AV.d (D.agg [D.sl (List.map ceD s.l), D.int IntKind.i64 s.f, D.int IntKind.i64 s.u])] [] (AV.d (D.int IntKind.i64 (0 : Int))) []) ∧ ((D.bool (decide (s.u ≥ (64 : Int))) = D.bool false) ∧ ((D.bool (decide (s.f < (0 : Int))) = D.bool true) ∧ ((((0 : Nat) + (List.map ceD s.l).length) * (24 : Nat) ≤ (140737488355328 : Nat)) ∧ ((∀ (e : D), e ∈ List.map ceD s.l → e.cells.length = (3 : Nat)) ∧ (((([] ++ List.map ceD s.l).length + [D.agg (List.take (3 : Nat) [D.bool true, D.int IntKind.i64 v, D.int IntKind.i64 (0 : Int)])].length) * (24 : Nat) ≤ (140737488355328 : Nat)) ∧ ((∀ (e : D), e ∈ chunk (3 : Nat) (1 : Nat) [D.bool true, D.int IntKind.i64 v, D.int IntKind.i64 (0 : Int)] → e.cells.length = (3 : Nat)) ∧ ((AV.tup [AV.d (D.agg [D.sl ([] ++ List.map ceD s.l ++ [D.agg (List.take (3 : Nat) [D.bool true, D.int IntKind.i64 v, D.int IntKind.i64 (0 : Int)])]), D.int IntKind.i64 s.f, D.int IntKind.i64 (IntKind.i64.wrap (s.u + (1 : Int)))]), AV.d (D.int IntKind.i64 (IntKind.i64.wrap ((↑([] ++ List.map ceD s.l ++ [D.agg (List.take (3 : Nat) [D.bool true, D.int IntKind.i64 v, D.int IntKind.i64 (0 : Int)])]).length : Int) - (1 : Int)))), AV.d (D.int IntKind.i64 (0 : Int))] = AV.tup [AV.d (D.agg [D.sl (List.map ceD (Ar.mk (s.l ++ [Ce.mk true v (0 : Int)]) s.f (s.u + (1 : Int))).l), D.int IntKind.i64 (Ar.mk (s.l ++ [Ce.mk true v (0 : Int)]) s.f (s.u + (1 : Int))).f, D.int IntKind.i64 (Ar.mk (s.l ++ [Ce.mk true v (0 : Int)]) s.f (s.u + (1 : Int))).u]), AV.d (D.int IntKind.i64 (↑s.l.length : Int)), AV.d (D.int IntKind.i64 (0 : Int))]) ∧ (True))))))))) (h := {G := [(20, gAns (.d (.int .i64 0)))], H := [(4, [(2, .val (.bool false))]), (7, [(2, .val (.bool true))])]}) (subs := []) (ws := []) (ρ := []) (by kernel_rfl) ?_
  have k1 := chk20 s hl
  rw [he] at k1
  have hw : IntKind.i64.wrap (s.u + 1) = s.u + 1 := by rw [IntKind.wrap_i64]; omega
  have hm : (s.l.map ceD).length = s.l.length := List.length_map ..
  simp only [hw]
  repeat' (first | with_reducible exact True.intro | with_reducible refine And.intro ?_ ?_ | with_reducible refine condP_dec (fun _ => ?_) (fun _ => ?_) | with_reducible refine condP_eq (fun _ => ?_) (fun _ => ?_) | with_reducible refine condP_ne (fun _ => ?_) (fun _ => ?_) | with_reducible refine condP_not (condP_dec (fun _ => ?_) (fun _ => ?_)) | with_reducible refine condP_not (condP_eq (fun _ => ?_) (fun _ => ?_)) | with_reducible refine condP_not (condP_intro (fun _ => ?_) (fun _ => ?_)) | with_reducible refine condP_intro (fun _ => ?_) (fun _ => ?_))
  all_goals first | exact k1 | exact k2 | exact k3 | rfl | exact el_map hn rfl | omega | exact dyes (by omega) | exact dno (by omega) | (refine congrArg D.bool ?_; simp_all; done) | (simp [List.map_set]; done) | exact ceD_sz _ | (simp; omega) | (intro e he; simp [chunk] at he; subst he; rfl) | (simp [arD, ceD]; done) | (simp [arD, ceD, List.map_set]; done) | (simp [arD, ceD, IntKind.wrap_i64]; omega) | skip

set_option maxRecDepth 100000 in
set_option maxHeartbeats 1000000 in
theorem take10s (l : List Ce) (u : Int) (n : Nat) (hl : l.length < 1000000) (v : Int) (he : aChk ⟨l, n, u⟩ = 0) (h0 : u < 64) (h1 : 0 ≤ u) (c : Ce) (hn : l[n]? = some c) : FnOK Try.prog 10 ([.d (arD ⟨l, n, u⟩), .d (.int .i64 v)]) ([]) (.tup [.d (arD ⟨l.set n ⟨true, v, 0⟩, c.l, u + 1⟩), .d (.int .i64 n), .d (.int .i64 0)]) ([]) := by
  refine fnOK_wp (p := (FnOK Try.prog (20 : Nat) [AV.d (D.agg [D.sl (List.map ceD (Ar.mk l (↑n : Int) u).l), D.int IntKind.i64 (Ar.mk l (↑n : Int) u).f, D.int IntKind.i64 (Ar.mk l (↑n : Int) u).u])] [] (AV.d (D.int IntKind.i64 (0 : Int))) []) ∧ ((D.bool (decide ((Ar.mk l (↑n : Int) u).u ≥ (64 : Int))) = D.bool false) ∧ ((D.bool false = D.bool false) ∧ (((0 : Int) ≤ (Ar.mk l (↑n : Int) u).f) ∧ (((List.map ceD (Ar.mk l (↑n : Int) u).l)[(Ar.mk l (↑n : Int) u).f.toNat]? = some (D.agg [D.bool c.v, D.int IntKind.i64 c.x, D.int IntKind.i64 c.l])) ∧ ((FnOK Try.prog (30 : Nat) [AV.d (D.agg [D.sl (List.map ceD (Ar.mk l (↑n : Int) u).l), D.int IntKind.i64 c.l, D.int IntKind.i64 (IntKind.i64.wrap ((Ar.mk l (↑n : Int) u).u + (1 : Int)))]), AV.d (D.int IntKind.i64 (Ar.mk l (↑n : Int) u).f), AV.d (D.agg [D.bool true, D.int IntKind.i64 v, D.int IntKind.i64 (0 : Int)])] [] (AV.d (D.agg [D.sl (List.map ceD (Ar.mk (l.set n (Ce.mk true v (0 : Int))) c.l (u + (1 : Int))).l), D.int IntKind.i64 (Ar.mk (l.set n (Ce.mk true v (0 : Int))) c.l (u + (1 : Int))).f, D.int IntKind.i64 (Ar.mk (l.set n (Ce.mk true v (0 : Int))) c.l (u + (1 : Int))).u])) []) ∧ ((AV.tup [AV.d (D.agg [D.sl (List.map ceD (Ar.mk (l.set n (Ce.mk true v (0 : Int))) c.l (u + (1 : Int))).l), D.int IntKind.i64 (Ar.mk (l.set n (Ce.mk true v (0 : Int))) c.l (u + (1 : Int))).f, D.int IntKind.i64 (Ar.mk (l.set n (Ce.mk true v (0 : Int))) c.l (u + (1 : Int))).u]), AV.d (D.int IntKind.i64 (Ar.mk l (↑n : Int) u).f), AV.d (D.int IntKind.i64 (0 : Int))] = AV.tup [AV.d (D.agg [D.sl (List.map ceD (Ar.mk (l.set n (Ce.mk true v (0 : Int))) c.l (u + (1 : Int))).l), D.int IntKind.i64 (Ar.mk (l.set n (Ce.mk true v (0 : Int))) c.l (u + (1 : Int))).f, D.int IntKind.i64 (Ar.mk (l.set n (Ce.mk true v (0 : Int))) c.l (u + (1 : Int))).u]), AV.d (D.int IntKind.i64 (↑n : Int)), AV.d (D.int IntKind.i64 (0 : Int))]) ∧ (True)))))))) (h := {G := [(20, gAns (.d (.int .i64 0))), (30, gAns (.d (arD ⟨l.set n ⟨true, v, 0⟩, c.l, u + 1⟩)))], H := [(4, [(2, .val (.bool false))]), (7, [(2, .val (.bool false))])], els := [(46, .el (ceD c))]}) (subs := []) (ws := []) (ρ := []) (by kernel_rfl) ?_
  have k1 := chk20 ⟨l, n, u⟩ hl
  rw [he] at k1
  have k2 := with30 ⟨l, c.l, u + 1⟩ n c ⟨true, v, 0⟩ hn hl
  have hj := get_lt hn
  have hw : IntKind.i64.wrap (u + 1) = u + 1 := by rw [IntKind.wrap_i64]; omega
  simp only [hw, List.length_map]
  repeat' (first | with_reducible exact True.intro | with_reducible refine And.intro ?_ ?_ | with_reducible refine condP_dec (fun _ => ?_) (fun _ => ?_) | with_reducible refine condP_eq (fun _ => ?_) (fun _ => ?_) | with_reducible refine condP_ne (fun _ => ?_) (fun _ => ?_) | with_reducible refine condP_not (condP_dec (fun _ => ?_) (fun _ => ?_)) | with_reducible refine condP_not (condP_eq (fun _ => ?_) (fun _ => ?_)) | with_reducible refine condP_not (condP_intro (fun _ => ?_) (fun _ => ?_)) | with_reducible refine condP_intro (fun _ => ?_) (fun _ => ?_))
  all_goals first | exact k1 | exact k2 | exact k3 | rfl | exact el_map hn rfl | omega | exact dyes (by omega) | exact dno (by omega) | (refine congrArg D.bool ?_; simp_all; done) | (simp [List.map_set]; done) | exact ceD_sz _ | (simp; omega) | (intro e he; simp [chunk] at he; subst he; rfl) | (simp [arD, ceD]; done) | (simp [arD, ceD, List.map_set]; done) | (simp [arD, ceD, IntKind.wrap_i64]; omega) | skip

set_option maxRecDepth 100000 in
set_option maxHeartbeats 1000000 in
theorem give12n (s : Ar) (hl : s.l.length < 1000000) (a e : Int) (he : aChk s = e) (h0 : e ≠ 0) : FnOK Try.prog 12 ([.d (arD s), .d (.int .i64 a)]) ([]) (.tup [.d (arD s), .d (.int .i64 e)]) ([]) := by
  refine fnOK_wp (p := (FnOK Try.prog (20 : Nat) [AV.d (D.agg [D.sl (List.map ceD s.l), D.int IntKind.i64 s.f, D.int IntKind.i64 s.u])] [] (AV.d (D.int IntKind.i64 e)) []) ∧ ((D.bool (e != (0 : Int)) = D.bool true) ∧ ((AV.tup [AV.d (D.agg [D.sl (List.map ceD s.l), D.int IntKind.i64 s.f, D.int IntKind.i64 s.u]), AV.d (D.int IntKind.i64 e)] = AV.tup [AV.d (D.agg [D.sl (List.map ceD s.l), D.int IntKind.i64 s.f, D.int IntKind.i64 s.u]), AV.d (D.int IntKind.i64 e)]) ∧ (True)))) (h := {G := [(20, gAns (.d (.int .i64 e)))], H := [(2, [(1, .val (.bool true))])]}) (subs := []) (ws := []) (ρ := []) (by kernel_rfl) ?_
  have k1 := chk20 s hl
  rw [he] at k1
  repeat' (first | with_reducible exact True.intro | with_reducible refine And.intro ?_ ?_ | with_reducible refine condP_dec (fun _ => ?_) (fun _ => ?_) | with_reducible refine condP_eq (fun _ => ?_) (fun _ => ?_) | with_reducible refine condP_ne (fun _ => ?_) (fun _ => ?_) | with_reducible refine condP_not (condP_dec (fun _ => ?_) (fun _ => ?_)) | with_reducible refine condP_not (condP_eq (fun _ => ?_) (fun _ => ?_)) | with_reducible refine condP_not (condP_intro (fun _ => ?_) (fun _ => ?_)) | with_reducible refine condP_intro (fun _ => ?_) (fun _ => ?_))
  all_goals first | exact k1 | exact k2 | exact k3 | rfl | exact el_map hn rfl | omega | exact dyes (by omega) | exact dno (by omega) | (refine congrArg D.bool ?_; simp_all; done) | (simp [List.map_set]; done) | exact ceD_sz _ | (simp; omega) | (intro e he; simp [chunk] at he; subst he; rfl) | (simp [arD, ceD]; done) | (simp [arD, ceD, List.map_set]; done) | (simp [arD, ceD, IntKind.wrap_i64]; omega) | skip

set_option maxRecDepth 100000 in
set_option maxHeartbeats 1000000 in
theorem give12f (s : Ar) (hl : s.l.length < 1000000) (a : Int) (he : aChk s = 0) (h0 : isLive s a = false) : FnOK Try.prog 12 ([.d (arD s), .d (.int .i64 a)]) ([]) (.tup [.d (arD s), .d (.int .i64 6)]) ([]) := by
  refine fnOK_wp (p := (FnOK Try.prog (20 : Nat) [AV.d (D.agg [D.sl (List.map ceD s.l), D.int IntKind.i64 s.f, D.int IntKind.i64 s.u])] [] (AV.d (D.int IntKind.i64 (0 : Int))) []) ∧ ((FnOK Try.prog (32 : Nat) [AV.d (D.agg [D.sl (List.map ceD s.l), D.int IntKind.i64 s.f, D.int IntKind.i64 s.u]), AV.d (D.int IntKind.i64 a)] [] (AV.d (D.bool false)) []) ∧ ((AV.tup [AV.d (D.agg [D.sl (List.map ceD s.l), D.int IntKind.i64 s.f, D.int IntKind.i64 s.u]), AV.d (D.int IntKind.i64 (6 : Int))] = AV.tup [AV.d (D.agg [D.sl (List.map ceD s.l), D.int IntKind.i64 s.f, D.int IntKind.i64 s.u]), AV.d (D.int IntKind.i64 (6 : Int))]) ∧ (True)))) (h := {G := [(20, gAns (.d (.int .i64 0))), (32, gAns (.d (.bool false)))]}) (subs := []) (ws := []) (ρ := []) (by kernel_rfl) ?_
  have k1 := chk20 s hl
  rw [he] at k1
  have k2 := live32 s a
  rw [h0] at k2
  repeat' (first | with_reducible exact True.intro | with_reducible refine And.intro ?_ ?_ | with_reducible refine condP_dec (fun _ => ?_) (fun _ => ?_) | with_reducible refine condP_eq (fun _ => ?_) (fun _ => ?_) | with_reducible refine condP_ne (fun _ => ?_) (fun _ => ?_) | with_reducible refine condP_not (condP_dec (fun _ => ?_) (fun _ => ?_)) | with_reducible refine condP_not (condP_eq (fun _ => ?_) (fun _ => ?_)) | with_reducible refine condP_not (condP_intro (fun _ => ?_) (fun _ => ?_)) | with_reducible refine condP_intro (fun _ => ?_) (fun _ => ?_))
  all_goals first | exact k1 | exact k2 | exact k3 | rfl | exact el_map hn rfl | omega | exact dyes (by omega) | exact dno (by omega) | (refine congrArg D.bool ?_; simp_all; done) | (simp [List.map_set]; done) | exact ceD_sz _ | (simp; omega) | (intro e he; simp [chunk] at he; subst he; rfl) | (simp [arD, ceD]; done) | (simp [arD, ceD, List.map_set]; done) | (simp [arD, ceD, IntKind.wrap_i64]; omega) | skip

set_option maxRecDepth 100000 in
set_option maxHeartbeats 1000000 in
theorem give12y (s : Ar) (hl : s.l.length < 1000000) (he : aChk s = 0) (h0 : 0 ≤ s.u ∧ s.u ≤ 64) (n : Nat) (c : Ce) (hn : s.l[n]? = some c) (hv : c.v = true) : FnOK Try.prog 12 ([.d (arD s), .d (.int .i64 n)]) ([]) (.tup [.d (arD ⟨s.l.set n ⟨false, 0, s.f⟩, n, s.u - 1⟩), .d (.int .i64 0)]) ([]) := by
  refine fnOK_wp (p := (FnOK Try.prog (20 : Nat) [AV.d (D.agg [D.sl (List.map ceD s.l), D.int IntKind.i64 s.f, D.int IntKind.i64 s.u])] [] (AV.d (D.int IntKind.i64 (0 : Int))) []) ∧ ((FnOK Try.prog (32 : Nat) [AV.d (D.agg [D.sl (List.map ceD s.l), D.int IntKind.i64 s.f, D.int IntKind.i64 s.u]), AV.d (D.int IntKind.i64 (↑n : Int))] [] (AV.d (D.bool true)) []) ∧ ((FnOK Try.prog (30 : Nat) [AV.d (D.agg [D.sl (List.map ceD s.l), D.int IntKind.i64 s.f, D.int IntKind.i64 s.u]), AV.d (D.int IntKind.i64 (↑n : Int)), AV.d (D.agg [D.bool false, D.int IntKind.i64 (0 : Int), D.int IntKind.i64 s.f])] [] (AV.d (D.agg [D.sl (List.map ceD (Ar.mk (s.l.set n (Ce.mk false (0 : Int) s.f)) s.f s.u).l), D.int IntKind.i64 (Ar.mk (s.l.set n (Ce.mk false (0 : Int) s.f)) s.f s.u).f, D.int IntKind.i64 (Ar.mk (s.l.set n (Ce.mk false (0 : Int) s.f)) s.f s.u).u])) []) ∧ ((AV.tup [AV.d (D.agg [D.sl (List.map ceD (Ar.mk (s.l.set n (Ce.mk false (0 : Int) s.f)) s.f s.u).l), D.int IntKind.i64 (↑n : Int), D.int IntKind.i64 (IntKind.i64.wrap ((Ar.mk (s.l.set n (Ce.mk false (0 : Int) s.f)) s.f s.u).u - (1 : Int)))]), AV.d (D.int IntKind.i64 (0 : Int))] = AV.tup [AV.d (D.agg [D.sl (List.map ceD (Ar.mk (s.l.set n (Ce.mk false (0 : Int) s.f)) (↑n : Int) (s.u - (1 : Int))).l), D.int IntKind.i64 (Ar.mk (s.l.set n (Ce.mk false (0 : Int) s.f)) (↑n : Int) (s.u - (1 : Int))).f, D.int IntKind.i64 (Ar.mk (s.l.set n (Ce.mk false (0 : Int) s.f)) (↑n : Int) (s.u - (1 : Int))).u]), AV.d (D.int IntKind.i64 (0 : Int))]) ∧ (True))))) (h := {G := [(20, gAns (.d (.int .i64 0))), (32, gAns (.d (.bool true))), (30, gAns (.d (arD ⟨s.l.set n ⟨false, 0, s.f⟩, s.f, s.u⟩)))]}) (subs := []) (ws := []) (ρ := []) (by kernel_rfl) ?_
  have k1 := chk20 s hl
  rw [he] at k1
  have k2 := live32 s n
  rw [isLive_of hn, hv] at k2
  have k3 := with30 s n c ⟨false, 0, s.f⟩ hn hl
  have hj := get_lt hn
  have hw : IntKind.i64.wrap (s.u - 1) = s.u - 1 := by rw [IntKind.wrap_i64]; omega
  simp only [hw, List.length_map]
  repeat' (first | with_reducible exact True.intro | with_reducible refine And.intro ?_ ?_ | with_reducible refine condP_dec (fun _ => ?_) (fun _ => ?_) | with_reducible refine condP_eq (fun _ => ?_) (fun _ => ?_) | with_reducible refine condP_ne (fun _ => ?_) (fun _ => ?_) | with_reducible refine condP_not (condP_dec (fun _ => ?_) (fun _ => ?_)) | with_reducible refine condP_not (condP_eq (fun _ => ?_) (fun _ => ?_)) | with_reducible refine condP_not (condP_intro (fun _ => ?_) (fun _ => ?_)) | with_reducible refine condP_intro (fun _ => ?_) (fun _ => ?_))
  all_goals first | exact k1 | exact k2 | exact k3 | rfl | exact el_map hn rfl | omega | exact dyes (by omega) | exact dno (by omega) | (refine congrArg D.bool ?_; simp_all; done) | (simp [List.map_set]; done) | exact ceD_sz _ | (simp; omega) | (intro e he; simp [chunk] at he; subst he; rfl) | (simp [arD, ceD]; done) | (simp [arD, ceD, List.map_set]; done) | (simp [arD, ceD, IntKind.wrap_i64]; omega) | skip

set_option maxRecDepth 100000 in
set_option maxHeartbeats 1000000 in
theorem set14n (s : Ar) (hl : s.l.length < 1000000) (a v e : Int) (he : aChk s = e) (h0 : e ≠ 0) : FnOK Try.prog 14 ([.d (arD s), .d (.int .i64 a), .d (.int .i64 v)]) ([]) (.tup [.d (arD s), .d (.int .i64 e)]) ([]) := by
  refine fnOK_wp (p := (FnOK Try.prog (20 : Nat) [AV.d (D.agg [D.sl (List.map ceD s.l), D.int IntKind.i64 s.f, D.int IntKind.i64 s.u])] [] (AV.d (D.int IntKind.i64 e)) []) ∧ ((D.bool (e != (0 : Int)) = D.bool true) ∧ ((AV.tup [AV.d (D.agg [D.sl (List.map ceD s.l), D.int IntKind.i64 s.f, D.int IntKind.i64 s.u]), AV.d (D.int IntKind.i64 e)] = AV.tup [AV.d (D.agg [D.sl (List.map ceD s.l), D.int IntKind.i64 s.f, D.int IntKind.i64 s.u]), AV.d (D.int IntKind.i64 e)]) ∧ (True)))) (h := {G := [(20, gAns (.d (.int .i64 e)))], H := [(2, [(1, .val (.bool true))])]}) (subs := []) (ws := []) (ρ := []) (by kernel_rfl) ?_
  have k1 := chk20 s hl
  rw [he] at k1
  repeat' (first | with_reducible exact True.intro | with_reducible refine And.intro ?_ ?_ | with_reducible refine condP_dec (fun _ => ?_) (fun _ => ?_) | with_reducible refine condP_eq (fun _ => ?_) (fun _ => ?_) | with_reducible refine condP_ne (fun _ => ?_) (fun _ => ?_) | with_reducible refine condP_not (condP_dec (fun _ => ?_) (fun _ => ?_)) | with_reducible refine condP_not (condP_eq (fun _ => ?_) (fun _ => ?_)) | with_reducible refine condP_not (condP_intro (fun _ => ?_) (fun _ => ?_)) | with_reducible refine condP_intro (fun _ => ?_) (fun _ => ?_))
  all_goals first | exact k1 | exact k2 | exact k3 | rfl | exact el_map hn rfl | omega | exact dyes (by omega) | exact dno (by omega) | (refine congrArg D.bool ?_; simp_all; done) | (simp [List.map_set]; done) | exact ceD_sz _ | (simp; omega) | (intro e he; simp [chunk] at he; subst he; rfl) | (simp [arD, ceD]; done) | (simp [arD, ceD, List.map_set]; done) | (simp [arD, ceD, IntKind.wrap_i64]; omega) | skip

set_option maxRecDepth 100000 in
set_option maxHeartbeats 1000000 in
theorem set14f (s : Ar) (hl : s.l.length < 1000000) (a v : Int) (he : aChk s = 0) (h0 : isLive s a = false) : FnOK Try.prog 14 ([.d (arD s), .d (.int .i64 a), .d (.int .i64 v)]) ([]) (.tup [.d (arD s), .d (.int .i64 6)]) ([]) := by
  refine fnOK_wp (p := (FnOK Try.prog (20 : Nat) [AV.d (D.agg [D.sl (List.map ceD s.l), D.int IntKind.i64 s.f, D.int IntKind.i64 s.u])] [] (AV.d (D.int IntKind.i64 (0 : Int))) []) ∧ ((FnOK Try.prog (32 : Nat) [AV.d (D.agg [D.sl (List.map ceD s.l), D.int IntKind.i64 s.f, D.int IntKind.i64 s.u]), AV.d (D.int IntKind.i64 a)] [] (AV.d (D.bool false)) []) ∧ ((AV.tup [AV.d (D.agg [D.sl (List.map ceD s.l), D.int IntKind.i64 s.f, D.int IntKind.i64 s.u]), AV.d (D.int IntKind.i64 (6 : Int))] = AV.tup [AV.d (D.agg [D.sl (List.map ceD s.l), D.int IntKind.i64 s.f, D.int IntKind.i64 s.u]), AV.d (D.int IntKind.i64 (6 : Int))]) ∧ (True)))) (h := {G := [(20, gAns (.d (.int .i64 0))), (32, gAns (.d (.bool false)))]}) (subs := []) (ws := []) (ρ := []) (by kernel_rfl) ?_
  have k1 := chk20 s hl
  rw [he] at k1
  have k2 := live32 s a
  rw [h0] at k2
  repeat' (first | with_reducible exact True.intro | with_reducible refine And.intro ?_ ?_ | with_reducible refine condP_dec (fun _ => ?_) (fun _ => ?_) | with_reducible refine condP_eq (fun _ => ?_) (fun _ => ?_) | with_reducible refine condP_ne (fun _ => ?_) (fun _ => ?_) | with_reducible refine condP_not (condP_dec (fun _ => ?_) (fun _ => ?_)) | with_reducible refine condP_not (condP_eq (fun _ => ?_) (fun _ => ?_)) | with_reducible refine condP_not (condP_intro (fun _ => ?_) (fun _ => ?_)) | with_reducible refine condP_intro (fun _ => ?_) (fun _ => ?_))
  all_goals first | exact k1 | exact k2 | exact k3 | rfl | exact el_map hn rfl | omega | exact dyes (by omega) | exact dno (by omega) | (refine congrArg D.bool ?_; simp_all; done) | (simp [List.map_set]; done) | exact ceD_sz _ | (simp; omega) | (intro e he; simp [chunk] at he; subst he; rfl) | (simp [arD, ceD]; done) | (simp [arD, ceD, List.map_set]; done) | (simp [arD, ceD, IntKind.wrap_i64]; omega) | skip

set_option maxRecDepth 100000 in
set_option maxHeartbeats 1000000 in
theorem set14y (s : Ar) (hl : s.l.length < 1000000) (v : Int) (he : aChk s = 0) (n : Nat) (c : Ce) (hn : s.l[n]? = some c) (hv : c.v = true) : FnOK Try.prog 14 ([.d (arD s), .d (.int .i64 n), .d (.int .i64 v)]) ([]) (.tup [.d (arD ⟨s.l.set n ⟨true, v, 0⟩, s.f, s.u⟩), .d (.int .i64 0)]) ([]) := by
  refine fnOK_wp (p := (FnOK Try.prog (20 : Nat) [AV.d (D.agg [D.sl (List.map ceD s.l), D.int IntKind.i64 s.f, D.int IntKind.i64 s.u])] [] (AV.d (D.int IntKind.i64 (0 : Int))) []) ∧ ((FnOK Try.prog (32 : Nat) [AV.d (D.agg [D.sl (List.map ceD s.l), D.int IntKind.i64 s.f, D.int IntKind.i64 s.u]), AV.d (D.int IntKind.i64 (↑n : Int))] [] (AV.d (D.bool true)) []) ∧ ((FnOK Try.prog (30 : Nat) [AV.d (D.agg [D.sl (List.map ceD s.l), D.int IntKind.i64 s.f, D.int IntKind.i64 s.u]), AV.d (D.int IntKind.i64 (↑n : Int)), AV.d (D.agg [D.bool true, D.int IntKind.i64 v, D.int IntKind.i64 (0 : Int)])] [] (AV.d (D.agg [D.sl (List.map ceD (Ar.mk (s.l.set n (Ce.mk true v (0 : Int))) s.f s.u).l), D.int IntKind.i64 (Ar.mk (s.l.set n (Ce.mk true v (0 : Int))) s.f s.u).f, D.int IntKind.i64 (Ar.mk (s.l.set n (Ce.mk true v (0 : Int))) s.f s.u).u])) []) ∧ ((AV.tup [AV.d (D.agg [D.sl (List.map ceD (Ar.mk (s.l.set n (Ce.mk true v (0 : Int))) s.f s.u).l), D.int IntKind.i64 (Ar.mk (s.l.set n (Ce.mk true v (0 : Int))) s.f s.u).f, D.int IntKind.i64 (Ar.mk (s.l.set n (Ce.mk true v (0 : Int))) s.f s.u).u]), AV.d (D.int IntKind.i64 (0 : Int))] = AV.tup [AV.d (D.agg [D.sl (List.map ceD (Ar.mk (s.l.set n (Ce.mk true v (0 : Int))) s.f s.u).l), D.int IntKind.i64 (Ar.mk (s.l.set n (Ce.mk true v (0 : Int))) s.f s.u).f, D.int IntKind.i64 (Ar.mk (s.l.set n (Ce.mk true v (0 : Int))) s.f s.u).u]), AV.d (D.int IntKind.i64 (0 : Int))]) ∧ (True))))) (h := {G := [(20, gAns (.d (.int .i64 0))), (32, gAns (.d (.bool true))), (30, gAns (.d (arD ⟨s.l.set n ⟨true, v, 0⟩, s.f, s.u⟩)))]}) (subs := []) (ws := []) (ρ := []) (by kernel_rfl) ?_
  have k1 := chk20 s hl
  rw [he] at k1
  have k2 := live32 s n
  rw [isLive_of hn, hv] at k2
  have k3 := with30 s n c ⟨true, v, 0⟩ hn hl
  have hj := get_lt hn
  simp only [List.length_map]
  repeat' (first | with_reducible exact True.intro | with_reducible refine And.intro ?_ ?_ | with_reducible refine condP_dec (fun _ => ?_) (fun _ => ?_) | with_reducible refine condP_eq (fun _ => ?_) (fun _ => ?_) | with_reducible refine condP_ne (fun _ => ?_) (fun _ => ?_) | with_reducible refine condP_not (condP_dec (fun _ => ?_) (fun _ => ?_)) | with_reducible refine condP_not (condP_eq (fun _ => ?_) (fun _ => ?_)) | with_reducible refine condP_not (condP_intro (fun _ => ?_) (fun _ => ?_)) | with_reducible refine condP_intro (fun _ => ?_) (fun _ => ?_))
  all_goals first | exact k1 | exact k2 | exact k3 | rfl | exact el_map hn rfl | omega | exact dyes (by omega) | exact dno (by omega) | (refine congrArg D.bool ?_; simp_all; done) | (simp [List.map_set]; done) | exact ceD_sz _ | (simp; omega) | (intro e he; simp [chunk] at he; subst he; rfl) | (simp [arD, ceD]; done) | (simp [arD, ceD, List.map_set]; done) | (simp [arD, ceD, IntKind.wrap_i64]; omega) | skip

theorem take10 (s : Ar) (hl : s.l.length < 1000000) (v : Int) : FnOK Try.prog 10 [.d (arD s), .d (.int .i64 v)] [] (.tup [.d (arD (aTake s v).1), .d (.int .i64 (aTake s v).2.1), .d (.int .i64 (aTake s v).2.2)]) [] := by
  unfold aTake
  by_cases h : aChk s = 0
  · have hu := chk_u h
    rw [if_neg (not_not_intro h)]
    by_cases h1 : 64 ≤ s.u
    · rw [if_pos h1]; exact take10f s hl v h h1
    · rw [if_neg h1]
      by_cases h2 : s.f = -1
      · rw [if_pos h2]; exact take10a s hl v h (by omega) hu.1 h2
      · rw [if_neg h2]
        obtain ⟨l, f, u⟩ := s
        simp only at hu h1 h2 hl ⊢
        obtain ⟨n, rfl⟩ := Int.eq_ofNat_of_zero_le (show 0 ≤ f by omega)
        have hn : n < l.length := by omega
        rw [linkAt_of (get_of hn)]
        exact take10s l u n hl v h (by omega) hu.1 _ (get_of hn)
  · rw [if_pos h]; exact take10n s hl v _ rfl h
theorem give12 (s : Ar) (hl : s.l.length < 1000000) (a : Int) : FnOK Try.prog 12 [.d (arD s), .d (.int .i64 a)] [] (.tup [.d (arD (aGive s a).1), .d (.int .i64 (aGive s a).2)]) [] := by
  unfold aGive
  by_cases h : aChk s = 0
  · have hu := chk_u h
    rw [if_neg (not_not_intro h)]
    cases h1 : isLive s a
    · rw [if_pos rfl]; exact give12f s hl a h h1
    · rw [if_neg (by simp)]
      obtain ⟨n, c, rfl, hn, hv⟩ := isLive_yes h1
      exact give12y s hl h ⟨hu.1, hu.2.1⟩ n c hn hv
  · rw [if_pos h]; exact give12n s hl a _ rfl h
theorem set14 (s : Ar) (hl : s.l.length < 1000000) (a v : Int) : FnOK Try.prog 14 [.d (arD s), .d (.int .i64 a), .d (.int .i64 v)] [] (.tup [.d (arD (aSet s a v).1), .d (.int .i64 (aSet s a v).2)]) [] := by
  unfold aSet
  by_cases h : aChk s = 0
  · rw [if_neg (not_not_intro h)]
    cases h1 : isLive s a
    · rw [if_pos rfl]; exact set14f s hl a v h h1
    · rw [if_neg (by simp)]
      obtain ⟨n, c, rfl, hn, hv⟩ := isLive_yes h1
      exact set14y s hl v h n c hn hv
  · rw [if_pos h]; exact set14n s hl a v _ rfl h
end Go.Proofs.Ytgdifegembfjoaa
