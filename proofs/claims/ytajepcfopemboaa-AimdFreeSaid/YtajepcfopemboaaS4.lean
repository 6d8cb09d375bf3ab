/-
laws 10: the laws that a window grows, and of what is free. No condition beyond the statements' own.
-/
import Derived.Test.YtajepcfopemboaaS2
set_option linter.unusedSimpArgs false
set_option linter.unusedVariables false
namespace Go.Proofs.Ytajepcfopemboaa
open Sx Go.RowKit

def I5 (x : Aim) (j : Nat) : St := ⟨[(3, .ptr 1 0), (4, .d (.int .i64 j))], [(1, aB x)]⟩
def I5b (x : Aim) (was : Int) (j i : Nat) : St := ⟨[(3, .ptr 1 0), (4, .d (.int .i64 j)), (5, .d (.int .i64 was)), (6, .d (.int .i64 (48 * (i : Int))))], [(1, aB x)]⟩
set_option maxRecDepth 100000 in
set_option maxHeartbeats 1000000 in
theorem r5b (x y : Aim) (hy : aAcked x 48 = y) (was : Int) (h0 : 0 ≤ was) (h1 : was ≤ 4096) (j i : Nat) (hi : i < goes was) : Runs Try.prog 0 (loopN Try.prog 5 1) (St.as (I5b x was j i) 40) (.normal) (St.as (I5b y was j (i+1)) 40) := by
  refine round_wp (p := condP (decide ((48 : Int) * (↑i : Int) < was)) ((FnOK Try.prog (15 : Nat) [AV.d (D.agg [D.int IntKind.i64 x.w, D.int IntKind.i64 x.t, D.int IntKind.i64 x.p]), AV.d (D.int IntKind.i64 (48 : Int))] [] (AV.d (D.agg [D.int IntKind.i64 y.w, D.int IntKind.i64 y.t, D.int IntKind.i64 y.p])) []) ∧ ((AV.ptr (1 : Nat) (0 : Nat) = AV.ptr (1 : Nat) (0 : Nat)) ∧ ((AV.d (D.int IntKind.i64 (↑j : Int)) = AV.d (D.int IntKind.i64 (↑j : Int))) ∧ ((AV.d (D.int IntKind.i64 was) = AV.d (D.int IntKind.i64 was)) ∧ ((AV.d (D.int IntKind.i64 (IntKind.i64.wrap ((48 : Int) * (↑i : Int) + (48 : Int)))) = AV.d (D.int IntKind.i64 ((48 : Int) * (↑(i + (1 : Nat)) : Int)))) ∧ ((Ob.box [AV.d (D.int IntKind.i64 y.w), AV.d (D.int IntKind.i64 y.t), AV.d (D.int IntKind.i64 y.p)] = Ob.box [AV.d (D.int IntKind.i64 y.w), AV.d (D.int IntKind.i64 y.t), AV.d (D.int IntKind.i64 y.p)]) ∧ (True))))))) (False)) (h := {H := [(9, [(1, .call [] (.d (aD y)) [])])]}) (subs := []) (ws := []) (ρ := []) (by kernel_rfl) ?_
  have hv : IntKind.i64.wrap (48 * (i : Int) + 48) = 48 * ((i + 1 : Nat) : Int) := by unfold goes at hi; rw [IntKind.wrap_i64]; omega
  have hc := acked15 x 48
  rw [hy] at hc
  rw [hv]
  refine condP_t (by unfold goes at hi; rw [decide_eq_true_eq]; omega) ?_
  repeat' (first | with_reducible exact True.intro | with_reducible refine And.intro ?_ ?_ | with_reducible refine condP_dec (fun _ => ?_) (fun _ => ?_) | with_reducible refine condP_eq (fun _ => ?_) (fun _ => ?_) | with_reducible refine condP_ne (fun _ => ?_) (fun _ => ?_) | with_reducible refine condP_not (condP_dec (fun _ => ?_) (fun _ => ?_)) | with_reducible refine condP_not (condP_eq (fun _ => ?_) (fun _ => ?_)) | with_reducible refine condP_not (condP_intro (fun _ => ?_) (fun _ => ?_)) | with_reducible refine condP_intro (fun _ => ?_) (fun _ => ?_))
  all_goals first | exact hc | rfl

set_option maxRecDepth 100000 in
set_option maxHeartbeats 1000000 in
theorem q5b (x : Aim) (was : Int) (h0 : 0 ≤ was) (j : Nat) : Runs Try.prog 0 (loopN Try.prog 5 1) (St.as (I5b x was j (goes was)) 40) (.exit 2) (St.as (I5b x was j (goes was)) 40) := by
  refine round_wp (p := condP (decide ((48 : Int) * (↑(goes was) : Int) < was)) (False) ((AV.ptr (1 : Nat) (0 : Nat) = AV.ptr (1 : Nat) (0 : Nat)) ∧ ((AV.d (D.int IntKind.i64 (↑j : Int)) = AV.d (D.int IntKind.i64 (↑j : Int))) ∧ ((AV.d (D.int IntKind.i64 was) = AV.d (D.int IntKind.i64 was)) ∧ ((AV.d (D.int IntKind.i64 ((48 : Int) * (↑(goes was) : Int))) = AV.d (D.int IntKind.i64 ((48 : Int) * (↑(goes was) : Int)))) ∧ ((Ob.box [AV.d (D.int IntKind.i64 x.w), AV.d (D.int IntKind.i64 x.t), AV.d (D.int IntKind.i64 x.p)] = Ob.box [AV.d (D.int IntKind.i64 x.w), AV.d (D.int IntKind.i64 x.t), AV.d (D.int IntKind.i64 x.p)]) ∧ (True))))))) (h := {}) (subs := []) (ws := []) (ρ := []) (by kernel_rfl) ?_
  refine condP_f (by unfold goes; rw [decide_eq_false_iff_not]; omega) ?_
  repeat' (first | with_reducible exact True.intro | with_reducible refine And.intro ?_ ?_ | with_reducible refine condP_dec (fun _ => ?_) (fun _ => ?_) | with_reducible refine condP_eq (fun _ => ?_) (fun _ => ?_) | with_reducible refine condP_ne (fun _ => ?_) (fun _ => ?_) | with_reducible refine condP_not (condP_dec (fun _ => ?_) (fun _ => ?_)) | with_reducible refine condP_not (condP_eq (fun _ => ?_) (fun _ => ?_)) | with_reducible refine condP_not (condP_intro (fun _ => ?_) (fun _ => ?_)) | with_reducible refine condP_intro (fun _ => ?_) (fun _ => ?_))
  all_goals rfl

theorem l5b (x : Aim) (was : Int) (h0 : 0 ≤ was) (h1 : was ≤ 4096) (j : Nat) : Loops Try.prog 0 (loopN Try.prog 5 1) ((I5b (ackN x 0) was j 0).as 40) (.exit 2) ((I5b (ackN x (goes was)) was j (goes was)).as 40) :=
  loops_n (I := fun i => (I5b (ackN x i) was j i).as 40) (by simp) (goes was) 0 (by omega) (fun i _ hi => r5b _ _ rfl was h0 h1 j i hi) (q5b _ was h0 j)
set_option maxRecDepth 100000 in
set_option maxHeartbeats 1000000 in
theorem r5 (x y : Aim) (hy : inner x = y) (h0 : 0 ≤ x.w) (h1 : x.w < 4096) (h2 : x.w < y.w) (j : Nat) (hj : j < 90) : Runs Try.prog 0 (loopN Try.prog 5 0) (St.as (I5 x j) 40) (.normal) (St.as (I5 y (j+1)) 40) := by
  refine round_wp (p := (D.bool (decide ((↑j : Int) < (90 : Int))) = D.bool true) ∧ (condP (decide (x.w < (4096 : Int))) ((AV.ptr (1 : Nat) (0 : Nat) = AV.ptr (1 : Nat) (0 : Nat)) ∧ ((AV.d (D.int IntKind.i64 (↑j : Int)) = AV.d (D.int IntKind.i64 (↑j : Int))) ∧ ((AV.d (D.int IntKind.i64 x.w) = AV.d (D.int IntKind.i64 x.w)) ∧ ((AV.d (D.int IntKind.i64 (0 : Int)) = AV.d (D.int IntKind.i64 (0 : Int))) ∧ ((Ob.box [AV.d (D.int IntKind.i64 x.w), AV.d (D.int IntKind.i64 x.t), AV.d (D.int IntKind.i64 x.p)] = Ob.box [AV.d (D.int IntKind.i64 x.w), AV.d (D.int IntKind.i64 x.t), AV.d (D.int IntKind.i64 x.p)]) ∧ ((LoopsS Try.prog (0 : Nat) (loopN Try.prog (5 : Nat) (1 : Nat)) (I5b x x.w j (0 : Nat)) (Exit.exit (2 : Nat)) (I5b y x.w j (goes x.w)) (40 : Nat)) ∧ (condP (decide (y.w ≤ x.w)) (False) ((AV.ptr (1 : Nat) (0 : Nat) = AV.ptr (1 : Nat) (0 : Nat)) ∧ ((AV.d (D.int IntKind.i64 (IntKind.i64.wrap ((↑j : Int) + (1 : Int)))) = AV.d (D.int IntKind.i64 (↑(j + (1 : Nat)) : Int))) ∧ ((Ob.box [AV.d (D.int IntKind.i64 y.w), AV.d (D.int IntKind.i64 y.t), AV.d (D.int IntKind.i64 y.p)] = Ob.box [AV.d (D.int IntKind.i64 y.w), AV.d (D.int IntKind.i64 y.t), AV.d (D.int IntKind.i64 y.p)]) ∧ (True))))))))))) (False))) (h := {chain := true}) (subs := [⟨[], [], I5b x x.w j 0, .exit 2, I5b y x.w j (goes x.w)⟩]) (ws := []) (ρ := []) (by kernel_rfl) ?_
  have hv : IntKind.i64.wrap ((j : Int) + 1) = ((j + 1 : Nat) : Int) := by rw [IntKind.wrap_i64]; omega
  have hl := l5b x x.w h0 (by omega) j
  have hy2 : ackN x (goes x.w) = y := hy
  rw [hy2] at hl
  rw [hv]
  repeat' (first | with_reducible exact True.intro | with_reducible refine And.intro ?_ ?_ | with_reducible refine condP_dec (fun _ => ?_) (fun _ => ?_) | with_reducible refine condP_eq (fun _ => ?_) (fun _ => ?_) | with_reducible refine condP_ne (fun _ => ?_) (fun _ => ?_) | with_reducible refine condP_not (condP_dec (fun _ => ?_) (fun _ => ?_)) | with_reducible refine condP_not (condP_eq (fun _ => ?_) (fun _ => ?_)) | with_reducible refine condP_not (condP_intro (fun _ => ?_) (fun _ => ?_)) | with_reducible refine condP_intro (fun _ => ?_) (fun _ => ?_))
  all_goals first | exact hl | rfl | exact dyes (by omega) | (exfalso; omega)

set_option maxRecDepth 100000 in
set_option maxHeartbeats 1000000 in
theorem q5 (x : Aim) (h : x.w = 4096) (j : Nat) (hj : j < 90) : Runs Try.prog 0 (loopN Try.prog 5 0) (St.as (I5 x j) 40) (.exit 0) (St.as (I5 x j) 40) := by
  refine round_wp (p := (D.bool (decide ((↑j : Int) < (90 : Int))) = D.bool true) ∧ (condP (decide (x.w < (4096 : Int))) (False) ((AV.ptr (1 : Nat) (0 : Nat) = AV.ptr (1 : Nat) (0 : Nat)) ∧ ((AV.d (D.int IntKind.i64 (↑j : Int)) = AV.d (D.int IntKind.i64 (↑j : Int))) ∧ ((Ob.box [AV.d (D.int IntKind.i64 x.w), AV.d (D.int IntKind.i64 x.t), AV.d (D.int IntKind.i64 x.p)] = Ob.box [AV.d (D.int IntKind.i64 x.w), AV.d (D.int IntKind.i64 x.t), AV.d (D.int IntKind.i64 x.p)]) ∧ (True)))))) (h := {chain := true}) (subs := []) (ws := []) (ρ := []) (by kernel_rfl) ?_
  repeat' (first | with_reducible exact True.intro | with_reducible refine And.intro ?_ ?_ | with_reducible refine condP_dec (fun _ => ?_) (fun _ => ?_) | with_reducible refine condP_eq (fun _ => ?_) (fun _ => ?_) | with_reducible refine condP_ne (fun _ => ?_) (fun _ => ?_) | with_reducible refine condP_not (condP_dec (fun _ => ?_) (fun _ => ?_)) | with_reducible refine condP_not (condP_eq (fun _ => ?_) (fun _ => ?_)) | with_reducible refine condP_not (condP_intro (fun _ => ?_) (fun _ => ?_)) | with_reducible refine condP_intro (fun _ => ?_) (fun _ => ?_))
  all_goals first | rfl | exact dyes (by omega) | (exfalso; omega)

theorem l5 (x : Aim) (m : Nat) (hm : m < 90) (h : chk m x = true) (h0 : ∀ j, 0 ≤ (outer x j).w) : Loops Try.prog 0 (loopN Try.prog 5 0) ((I5 (outer x 0) 0).as 40) (.exit 0) ((I5 (outer x m) m).as 40) := by
  obtain ⟨k1, k2⟩ := chk_is m x h
  exact loops_n (I := fun j => (I5 (outer x j) j).as 40) (by simp) m 0 (by omega) (fun j _ hj => r5 _ _ rfl (h0 j) (k2 j hj).1 (k2 j hj).2 j (by omega)) (q5 _ k1 m hm)
theorem ackN_ok {x : Aim} (h : aOk x) : ∀ n, aOk (ackN x n)
  | 0 => h
  | n + 1 => (acked_is 48 (ackN_ok h n)).1
theorem outer_ok {x : Aim} (h : aOk x) : ∀ n, aOk (outer x n)
  | 0 => h
  | n + 1 => ackN_ok (outer_ok h n) _
theorem start_ok (kind : Int) (h0 : 0 ≤ kind) (h1 : kind < 256) : chk (times kind) (aStep aNew ⟨kind, 0⟩) = true ∧ times kind < 90 := by
  by_cases e0 : kind % 3 = 0
  · rw [step_0 (a := ⟨kind, 0⟩) e0, acked_no (by simp)]
    unfold times; rw [if_pos e0]
    exact ⟨by decide +kernel, by decide⟩
  · by_cases e1 : kind % 3 = 1
    · rw [step_1 (a := ⟨kind, 0⟩) e1]
      unfold times; rw [if_neg e0, if_pos e1]
      exact ⟨by decide +kernel, by decide⟩
    · rw [step_2 (a := ⟨kind, 0⟩) e0 e1]
      unfold times; rw [if_neg e0, if_neg e1]
      exact ⟨by decide +kernel, by decide⟩
set_option maxRecDepth 100000 in
set_option maxHeartbeats 1000000 in
theorem grows5 (kind : Int) (h0 : 0 ≤ kind) (h1 : kind < 256) (x y : Aim) (hx : aStep aNew ⟨kind, 0⟩ = x) (m : Nat) (hm : m = times kind) (hy : outer x m = y) : FnOK Try.prog 5 ([.d (.int .u8 kind)]) ([]) (.d (.bool true)) ([]) := by
  refine fnOK_wp (p := (FnOK Try.prog (21 : Nat) [] [] (AV.d (D.agg [D.int IntKind.i64 (96 : Int), D.int IntKind.i64 (1024 : Int), D.int IntKind.i64 (0 : Int)])) []) ∧ ((FnOK Try.prog (12 : Nat) [AV.d (D.agg [D.int IntKind.i64 (96 : Int), D.int IntKind.i64 (1024 : Int), D.int IntKind.i64 (0 : Int)]), AV.d (D.sl [D.agg [D.int IntKind.u8 kind, D.int IntKind.i64 (0 : Int)]])] [] (AV.d (D.agg [D.int IntKind.i64 x.w, D.int IntKind.i64 x.t, D.int IntKind.i64 x.p])) []) ∧ ((AV.ptr (1024 : Nat) (0 : Nat) = AV.ptr (1024 : Nat) (0 : Nat)) ∧ ((AV.d (D.int IntKind.i64 (0 : Int)) = AV.d (D.int IntKind.i64 (0 : Int))) ∧ ((Ob.box [AV.d (D.int IntKind.i64 x.w), AV.d (D.int IntKind.i64 x.t), AV.d (D.int IntKind.i64 x.p)] = Ob.box [AV.d (D.int IntKind.i64 x.w), AV.d (D.int IntKind.i64 x.t), AV.d (D.int IntKind.i64 x.p)]) ∧ ((LoopsS Try.prog (0 : Nat) (loopN Try.prog (5 : Nat) (0 : Nat)) (I5 x (0 : Nat)) (Exit.exit (0 : Nat)) (I5 y m) (40 : Nat)) ∧ ((D.bool (y.w == (4096 : Int)) = D.bool true) ∧ ((FnOK Try.prog (7 : Nat) [] [] (AV.d (D.bool true)) []) ∧ ((AV.d (D.bool true) = AV.d (D.bool true)) ∧ (True)))))))))) (h := {G := G2, H := [(1, [(4, .call [] (.d (aD x)) [])])], chain := true}) (subs := [⟨[], [], I5 x 0, .exit 0, I5 y m⟩]) (ws := []) (ρ := []) (by kernel_rfl) ?_
  have hs := start_ok kind h0 h1
  rw [hx, ← hm] at hs
  have hk := (chk_is m x hs.1).1
  rw [hy] at hk
  have hl := l5 x m hs.2 hs.1 (fun j => by
    have := outer_ok (x := x) (by rw [← hx]; exact (step_is _ new_is).1) j
    unfold aOk at this; omega)
  rw [hy] at hl
  have hr := run12 aNew [⟨kind, 0⟩] (by simp) (by simp [inA, h0, h1])
  have hz : aRun aNew [⟨kind, 0⟩] = x := hx
  rw [hz] at hr
  repeat' (first | with_reducible exact True.intro | with_reducible refine And.intro ?_ ?_ | with_reducible refine condP_dec (fun _ => ?_) (fun _ => ?_) | with_reducible refine condP_eq (fun _ => ?_) (fun _ => ?_) | with_reducible refine condP_ne (fun _ => ?_) (fun _ => ?_) | with_reducible refine condP_not (condP_dec (fun _ => ?_) (fun _ => ?_)) | with_reducible refine condP_not (condP_eq (fun _ => ?_) (fun _ => ?_)) | with_reducible refine condP_not (condP_intro (fun _ => ?_) (fun _ => ?_)) | with_reducible refine condP_intro (fun _ => ?_) (fun _ => ?_))
  all_goals first | first | exact aw7 | exact new21 | exact check8 _ | exact acked15 _ _ | exact lost17 _ | exact exp19 _ | exact hr | exact hl | rfl | (refine congrArg D.bool ?_; simp [hk]; done)

theorem aimdGrows_ok (x0 : D) (s0 : ∃ ds, CK.hasL [.int .u8] ds ∧ (if false then x0 = .agg ds else ds = [x0])) : FnOK Try.prog 5 [.d x0] [] (.d (.bool true)) [] := by
  obtain ⟨n, rfl, n0, n1⟩ := has_u8 (ck1 s0)
  exact grows5 n n0 n1 _ _ rfl _ rfl rfl
def I6 (l : List Act) (f : Int) (j : Nat) : St := ⟨[(0, .d (.sl (l.map actD))), (1, .d (.int .u16 f)), (5, .own 1 2), (6, .d (.int .i64 j))], [(1, .row 2 ((l.take j).map actD))]⟩
set_option maxRecDepth 100000 in
set_option maxHeartbeats 1000000 in
theorem r6 (l : List Act) (f : Int) (hl : l.length ≤ 60) (j : Nat) (a : Act) (hn : l[j]? = some a) : Runs Try.prog 0 (loopN Try.prog 6 0) (St.as (I6 l f j) 101) (.normal) (St.as (I6 l f (j+1)) 101) := by
  refine round_wp (p := condP (decide ((↑j : Int) < (↑(List.map actD l).length : Int))) (((0 : Int) ≤ (↑j : Int)) ∧ (((List.map actD l)[(↑j : Int).toNat]? = some (D.agg [D.int IntKind.u8 a.k, D.int IntKind.i64 a.n])) ∧ ((((List.map actD (List.take j l)).length + [D.agg (List.take (2 : Nat) [D.int IntKind.u8 a.k, D.int IntKind.i64 a.n])].length) * (16 : Nat) ≤ (140737488355328 : Nat)) ∧ ((∀ (e : D), e ∈ chunk (2 : Nat) (1 : Nat) [D.int IntKind.u8 a.k, D.int IntKind.i64 a.n] → e.cells.length = (2 : Nat)) ∧ ((AV.d (D.sl (List.map actD l)) = AV.d (D.sl (List.map actD l))) ∧ ((AV.d (D.int IntKind.u16 f) = AV.d (D.int IntKind.u16 f)) ∧ ((AV.own (1224 : Nat) (2 : Nat) = AV.own (1224 : Nat) (2 : Nat)) ∧ ((AV.d (D.int IntKind.i64 (IntKind.i64.wrap ((↑j : Int) + (1 : Int)))) = AV.d (D.int IntKind.i64 (↑(j + (1 : Nat)) : Int))) ∧ ((Ob.row (2 : Nat) (List.map actD (List.take j l) ++ [D.agg (List.take (2 : Nat) [D.int IntKind.u8 a.k, D.int IntKind.i64 a.n])]) = Ob.row (2 : Nat) (List.map actD (List.take (j + (1 : Nat)) l))) ∧ (True)))))))))) (False)) (h := {els := [(23, .el (actD a)), (25, .el (actD a))]}) (subs := []) (ws := []) (ρ := []) (by kernel_rfl) ?_
  have hj : j < l.length := (List.getElem?_eq_some_iff.1 hn).1
  have hv : IntKind.i64.wrap ((j : Int) + 1) = ((j + 1 : Nat) : Int) := by rw [IntKind.wrap_i64]; omega
  rw [hv, take_map_snoc _ hn]
  refine condP_t (by rw [decide_eq_true_eq, List.length_map]; omega) ?_
  repeat' (first | with_reducible exact True.intro | with_reducible refine And.intro ?_ ?_ | with_reducible refine condP_dec (fun _ => ?_) (fun _ => ?_) | with_reducible refine condP_eq (fun _ => ?_) (fun _ => ?_) | with_reducible refine condP_ne (fun _ => ?_) (fun _ => ?_) | with_reducible refine condP_not (condP_dec (fun _ => ?_) (fun _ => ?_)) | with_reducible refine condP_not (condP_eq (fun _ => ?_) (fun _ => ?_)) | with_reducible refine condP_not (condP_intro (fun _ => ?_) (fun _ => ?_)) | with_reducible refine condP_intro (fun _ => ?_) (fun _ => ?_))
  all_goals first | exact el_map hn rfl | rfl | omega | (simp; omega) | (simp [D.cells, chunk]; done) | skip

set_option maxRecDepth 100000 in
set_option maxHeartbeats 1000000 in
theorem q6 (l : List Act) (f : Int) : Runs Try.prog 0 (loopN Try.prog 6 0) (St.as (I6 l f l.length) 101) (.exit 0) (St.as (I6 l f l.length) 101) := by
  refine round_wp (p := condP (decide ((↑l.length : Int) < (↑(List.map actD l).length : Int))) (False) ((AV.d (D.sl (List.map actD l)) = AV.d (D.sl (List.map actD l))) ∧ ((AV.d (D.int IntKind.u16 f) = AV.d (D.int IntKind.u16 f)) ∧ ((AV.own (1 : Nat) (2 : Nat) = AV.own (1 : Nat) (2 : Nat)) ∧ ((AV.d (D.int IntKind.i64 (↑l.length : Int)) = AV.d (D.int IntKind.i64 (↑l.length : Int))) ∧ ((Ob.row (2 : Nat) (List.map actD (List.take l.length l)) = Ob.row (2 : Nat) (List.map actD (List.take l.length l))) ∧ (True))))))) (h := {}) (subs := []) (ws := []) (ρ := []) (by kernel_rfl) ?_
  repeat' (first | with_reducible exact True.intro | with_reducible refine And.intro ?_ ?_ | with_reducible refine condP_dec (fun _ => ?_) (fun _ => ?_) | with_reducible refine condP_eq (fun _ => ?_) (fun _ => ?_) | with_reducible refine condP_ne (fun _ => ?_) (fun _ => ?_) | with_reducible refine condP_not (condP_dec (fun _ => ?_) (fun _ => ?_)) | with_reducible refine condP_not (condP_eq (fun _ => ?_) (fun _ => ?_)) | with_reducible refine condP_not (condP_intro (fun _ => ?_) (fun _ => ?_)) | with_reducible refine condP_intro (fun _ => ?_) (fun _ => ?_))
  all_goals (try simp only [List.length_map, AV.d.injEq, D.int.injEq, D.bool.injEq, D.str.injEq, D.sl.injEq, true_and, and_true, decide_eq_true_eq, decide_eq_false_iff_not, decide_eq_decide])
  all_goals (try simp only [List.length_map] at *)
  all_goals first | rfl | omega

theorem l6 (l : List Act) (f : Int) (hl : l.length ≤ 60) : Loops Try.prog 0 (loopN Try.prog 6 0) ((I6 l f 0).as 101) (.exit 0) ((I6 l f l.length).as 101) :=
  loops_n (I := fun j => (I6 l f j).as 101) (by simp) l.length 0 (by omega) (fun j _ hj => r6 l f hl j l[j] (by simp [hj])) (q6 l f)
set_option maxRecDepth 100000 in
set_option maxHeartbeats 1000000 in
theorem free6 (l : List Act) (f : Int) (f0 : 0 ≤ f) (f1 : f < 65536) (hi : ∀ a ∈ l, inA a) (y : Aim) (hy : aRun aNew l = y) : FnOK Try.prog 6 ([.d (.sl (l.map actD)), .d (.int .u16 f)]) ([]) (.d (.bool true)) ([]) := by
  refine fnOK_wp (p := condP (decide ((↑(List.map actD l).length : Int) > (60 : Int))) ((FnOK Try.prog (7 : Nat) [] [] (AV.d (D.bool true)) []) ∧ ((AV.d (D.bool true) = AV.d (D.bool true)) ∧ (True))) ((AV.d (D.sl (List.map actD l)) = AV.d (D.sl (List.map actD l))) ∧ ((AV.d (D.int IntKind.u16 f) = AV.d (D.int IntKind.u16 f)) ∧ ((AV.own (901 : Nat) (2 : Nat) = AV.own (901 : Nat) (2 : Nat)) ∧ ((AV.d (D.int IntKind.i64 (0 : Int)) = AV.d (D.int IntKind.i64 (0 : Int))) ∧ ((Ob.row (2 : Nat) [] = Ob.row (2 : Nat) []) ∧ ((LoopsS Try.prog (0 : Nat) (loopN Try.prog (6 : Nat) (0 : Nat)) (I6 l f (0 : Nat)) (Exit.exit (0 : Nat)) (I6 l f l.length) (101 : Nat)) ∧ ((FnOK Try.prog (21 : Nat) [] [] (AV.d (D.agg [D.int IntKind.i64 (96 : Int), D.int IntKind.i64 (1024 : Int), D.int IntKind.i64 (0 : Int)])) []) ∧ ((FnOK Try.prog (12 : Nat) [AV.d (D.agg [D.int IntKind.i64 (96 : Int), D.int IntKind.i64 (1024 : Int), D.int IntKind.i64 (0 : Int)]), AV.d (D.sl (List.map actD (List.take l.length l)))] [] (AV.d (D.agg [D.int IntKind.i64 y.w, D.int IntKind.i64 y.t, D.int IntKind.i64 y.p])) []) ∧ ((FnOK Try.prog (17 : Nat) [AV.d (D.agg [D.int IntKind.i64 y.w, D.int IntKind.i64 y.t, D.int IntKind.i64 y.p])] [] (AV.d (D.agg [D.int IntKind.i64 (aLost y).w, D.int IntKind.i64 (aLost y).t, D.int IntKind.i64 (aLost y).p])) []) ∧ ((FnOK Try.prog (19 : Nat) [AV.d (D.agg [D.int IntKind.i64 y.w, D.int IntKind.i64 y.t, D.int IntKind.i64 y.p])] [] (AV.d (D.agg [D.int IntKind.i64 (aExpired y).w, D.int IntKind.i64 (aExpired y).t, D.int IntKind.i64 (aExpired y).p])) []) ∧ (((2 : Int) ≠ (0 : Int)) ∧ (condP (decide (IntKind.i64.wrap f > y.w)) (condP (decide (IntKind.i64.wrap f < y.w)) ((D.bool (decide (IntKind.i64.wrap f > y.w)) = D.bool true) ∧ ((D.bool true = D.bool true) ∧ ((D.bool (decide (IntKind.i64.wrap f < y.w)) = D.bool true) ∧ ((D.bool true = D.bool true) ∧ ((FnOK Try.prog (10 : Nat) [AV.d (D.agg [D.int IntKind.i64 y.w, D.int IntKind.i64 y.t, D.int IntKind.i64 y.p]), AV.d (D.int IntKind.i64 (-1 : Int))] [] (AV.d (D.int IntKind.i64 (aFree y (-1 : Int)))) []) ∧ ((D.bool (aFree y (-1 : Int) == y.w) = D.bool true) ∧ ((D.bool ((aLost y).w == max (IntKind.i64.wrap (y.w.tdiv (2 : Int))) (96 : Int)) = D.bool true) ∧ ((D.bool ((aLost y).t == max (IntKind.i64.wrap (y.w.tdiv (2 : Int))) (96 : Int)) = D.bool true) ∧ ((D.bool ((aExpired y).t == max (IntKind.i64.wrap (y.w.tdiv (2 : Int))) (96 : Int)) = D.bool true) ∧ ((D.bool ((aExpired y).w == (48 : Int)) = D.bool true) ∧ ((FnOK Try.prog (7 : Nat) [] [] (AV.d (D.bool true)) []) ∧ ((AV.d (D.bool true) = AV.d (D.bool true)) ∧ (True))))))))))))) ((D.bool (decide (IntKind.i64.wrap f > y.w)) = D.bool true) ∧ ((D.bool true = D.bool true) ∧ ((D.bool (decide (IntKind.i64.wrap f < y.w)) = D.bool false) ∧ ((FnOK Try.prog (10 : Nat) [AV.d (D.agg [D.int IntKind.i64 y.w, D.int IntKind.i64 y.t, D.int IntKind.i64 y.p]), AV.d (D.int IntKind.i64 (IntKind.i64.wrap f))] [] (AV.d (D.int IntKind.i64 (aFree y (IntKind.i64.wrap f)))) []) ∧ ((D.bool (aFree y (IntKind.i64.wrap f) == (0 : Int)) = D.bool true) ∧ ((FnOK Try.prog (10 : Nat) [AV.d (D.agg [D.int IntKind.i64 y.w, D.int IntKind.i64 y.t, D.int IntKind.i64 y.p]), AV.d (D.int IntKind.i64 (-1 : Int))] [] (AV.d (D.int IntKind.i64 (aFree y (-1 : Int)))) []) ∧ ((D.bool (aFree y (-1 : Int) == y.w) = D.bool true) ∧ ((D.bool ((aLost y).w == max (IntKind.i64.wrap (y.w.tdiv (2 : Int))) (96 : Int)) = D.bool true) ∧ ((D.bool ((aLost y).t == max (IntKind.i64.wrap (y.w.tdiv (2 : Int))) (96 : Int)) = D.bool true) ∧ ((D.bool ((aExpired y).t == max (IntKind.i64.wrap (y.w.tdiv (2 : Int))) (96 : Int)) = D.bool true) ∧ ((D.bool ((aExpired y).w == (48 : Int)) = D.bool true) ∧ ((FnOK Try.prog (7 : Nat) [] [] (AV.d (D.bool true)) []) ∧ ((AV.d (D.bool true) = AV.d (D.bool true)) ∧ (True))))))))))))))) (condP (decide (IntKind.i64.wrap f < y.w)) ((D.bool (decide (IntKind.i64.wrap f > y.w)) = D.bool false) ∧ ((FnOK Try.prog (10 : Nat) [AV.d (D.agg [D.int IntKind.i64 y.w, D.int IntKind.i64 y.t, D.int IntKind.i64 y.p]), AV.d (D.int IntKind.i64 (IntKind.i64.wrap f))] [] (AV.d (D.int IntKind.i64 (aFree y (IntKind.i64.wrap f)))) []) ∧ ((D.bool (IntKind.i64.wrap (aFree y (IntKind.i64.wrap f) + IntKind.i64.wrap f) == y.w) = D.bool true) ∧ ((D.bool (decide (IntKind.i64.wrap f < y.w)) = D.bool true) ∧ ((D.bool true = D.bool true) ∧ ((FnOK Try.prog (10 : Nat) [AV.d (D.agg [D.int IntKind.i64 y.w, D.int IntKind.i64 y.t, D.int IntKind.i64 y.p]), AV.d (D.int IntKind.i64 (-1 : Int))] [] (AV.d (D.int IntKind.i64 (aFree y (-1 : Int)))) []) ∧ ((D.bool (aFree y (-1 : Int) == y.w) = D.bool true) ∧ ((D.bool ((aLost y).w == max (IntKind.i64.wrap (y.w.tdiv (2 : Int))) (96 : Int)) = D.bool true) ∧ ((D.bool ((aLost y).t == max (IntKind.i64.wrap (y.w.tdiv (2 : Int))) (96 : Int)) = D.bool true) ∧ ((D.bool ((aExpired y).t == max (IntKind.i64.wrap (y.w.tdiv (2 : Int))) (96 : Int)) = D.bool true) ∧ ((D.bool ((aExpired y).w == (48 : Int)) = D.bool true) ∧ ((FnOK Try.prog (7 : Nat) [] [] (AV.d (D.bool true)) []) ∧ ((AV.d (D.bool true) = AV.d (D.bool true)) ∧ (True)))))))))))))) ((D.bool (decide (IntKind.i64.wrap f > y.w)) = D.bool false) ∧ ((FnOK Try.prog (10 : Nat) [AV.d (D.agg [D.int IntKind.i64 y.w, D.int IntKind.i64 y.t, D.int IntKind.i64 y.p]), AV.d (D.int IntKind.i64 (IntKind.i64.wrap f))] [] (AV.d (D.int IntKind.i64 (aFree y (IntKind.i64.wrap f)))) []) ∧ ((D.bool (IntKind.i64.wrap (aFree y (IntKind.i64.wrap f) + IntKind.i64.wrap f) == y.w) = D.bool true) ∧ ((D.bool (decide (IntKind.i64.wrap f < y.w)) = D.bool false) ∧ ((FnOK Try.prog (10 : Nat) [AV.d (D.agg [D.int IntKind.i64 y.w, D.int IntKind.i64 y.t, D.int IntKind.i64 y.p]), AV.d (D.int IntKind.i64 (IntKind.i64.wrap f))] [] (AV.d (D.int IntKind.i64 (aFree y (IntKind.i64.wrap f)))) []) ∧ ((D.bool (aFree y (IntKind.i64.wrap f) == (0 : Int)) = D.bool true) ∧ ((FnOK Try.prog (10 : Nat) [AV.d (D.agg [D.int IntKind.i64 y.w, D.int IntKind.i64 y.t, D.int IntKind.i64 y.p]), AV.d (D.int IntKind.i64 (-1 : Int))] [] (AV.d (D.int IntKind.i64 (aFree y (-1 : Int)))) []) ∧ ((D.bool (aFree y (-1 : Int) == y.w) = D.bool true) ∧ ((D.bool ((aLost y).w == max (IntKind.i64.wrap (y.w.tdiv (2 : Int))) (96 : Int)) = D.bool true) ∧ ((D.bool ((aLost y).t == max (IntKind.i64.wrap (y.w.tdiv (2 : Int))) (96 : Int)) = D.bool true) ∧ ((D.bool ((aExpired y).t == max (IntKind.i64.wrap (y.w.tdiv (2 : Int))) (96 : Int)) = D.bool true) ∧ ((D.bool ((aExpired y).w == (48 : Int)) = D.bool true) ∧ ((FnOK Try.prog (7 : Nat) [] [] (AV.d (D.bool true)) []) ∧ ((AV.d (D.bool true) = AV.d (D.bool true)) ∧ (True))))))))))))))))))))))))))))) (h := {G := G2, H := [(8, [(2, .call [] (.d (aD y)) [])]), (12, [(14, .val (.bool true)), (26, .val (.bool true)), (33, .val (.bool true)), (39, .val (.bool true)), (45, .val (.bool true)), (51, .val (.bool true)), (56, .val (.bool true))])]}) (subs := [⟨[], [], I6 l f 0, .exit 0, I6 l f l.length⟩]) (ws := []) (ρ := []) (by kernel_rfl) ?_
  refine condP_dec (fun h => ⟨aw7, rfl, trivial⟩) (fun h => ?_)
  rw [List.length_map] at h
  have hw : IntKind.i64.wrap f = f := by rw [IntKind.wrap_i64]; omega
  have ho : aOk y := by rw [← hy]; exact run_is new_is l
  have hc := check_iff.2 ho
  have hr := run12 aNew l (by omega) hi
  rw [hy] at hr
  have hb := ho
  unfold aOk at hb
  have w2 : IntKind.i64.wrap (y.w.tdiv 2) = y.w / 2 := by rw [Int.tdiv_eq_ediv_of_nonneg (by omega), w64 (by omega) (by omega)]
  have f1' : aFree y f = max (y.w - max f 0) 0 := free_yes hc
  have f2 : aFree y (-1) = y.w := by rw [free_yes hc]; omega
  have f3 : IntKind.i64.wrap (aFree y f + f) = aFree y f + f := by rw [f1']; exact w64 (by omega) (by omega)
  have e1 := lost_yes hc
  have e2 := exp_yes hc
  simp only [hw, w2, List.take_length, f3]
  repeat' (first | with_reducible exact True.intro | with_reducible refine And.intro ?_ ?_ | with_reducible refine condP_dec (fun _ => ?_) (fun _ => ?_) | with_reducible refine condP_eq (fun _ => ?_) (fun _ => ?_) | with_reducible refine condP_ne (fun _ => ?_) (fun _ => ?_) | with_reducible refine condP_not (condP_dec (fun _ => ?_) (fun _ => ?_)) | with_reducible refine condP_not (condP_eq (fun _ => ?_) (fun _ => ?_)) | with_reducible refine condP_not (condP_intro (fun _ => ?_) (fun _ => ?_)) | with_reducible refine condP_intro (fun _ => ?_) (fun _ => ?_))
  all_goals first | first | exact aw7 | exact new21 | exact check8 _ | exact acked15 _ _ | exact lost17 _ | exact exp19 _ | exact l6 l f (by omega) | exact hr | exact free10 _ _ (by omega) (by omega) | rfl | decide | exact dyes (by omega) | exact dno (by omega) | exact congrArg D.bool (beq_t (by omega)) | (refine congrArg D.bool ?_; simp [e1, e2]; done) | (refine congrArg D.bool ?_; simp [f2]; done) | skip

theorem aimdFree_ok (x0 : D) (s0 : ∃ ds, CK.hasL [.sl true [.int .u8, .int .i64]] ds ∧ (if false then x0 = .agg ds else ds = [x0])) (x1 : D) (s1 : ∃ ds, CK.hasL [.int .u16] ds ∧ (if false then x1 = .agg ds else ds = [x1])) :
    FnOK Try.prog 6 [.d x0, .d x1] [] (.d (.bool true)) [] := by
  obtain ⟨l, rfl, -, hl⟩ := acts_of s0
  obtain ⟨f, rfl, f0, f1⟩ := has_u16 (ck1 s1)
  exact free6 l f f0 f1 hl _ rfl
end Go.Proofs.Ytajepcfopemboaa
