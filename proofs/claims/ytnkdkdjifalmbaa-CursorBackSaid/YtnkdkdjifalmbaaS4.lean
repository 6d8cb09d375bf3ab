/-
laws 01: the law that the first error stays. No condition beyond the statement's own.
-/
import Derived.Test.YtnkdkdjifalmbaaS3
set_option linter.unusedSimpArgs false
set_option linter.unusedVariables false
namespace Go.Proofs.Ytnkdkdjifalmbaa
open Sx Go.RowKit

theorem bad_all {w : Cur} (h : w.b ≠ 0) (n : Int) : numA w n = .tup [.d (cD w), .d (.int .i64 0)] ∧ tkA w n = .tup [.d (cD w), .d (.str [])] := by
  have h1 := odd_no (c := w) (n := n) (fun o => h o.1)
  have h2 := take_bad (n := n) h
  unfold numA tkA
  rw [h1.1, h1.2, h2.1, h2.2]
  exact ⟨rfl, rfl⟩
def I6 (l : List Int) (w : Cur) (j : Nat) : St := ⟨[(2, .d (.sl (l.map (.int .i64)))), (7, .ptr 1 0), (9, .ptr 2 0), (10, .d (.int .i64 j))], [(1, cB w), (2, cB w)]⟩
set_option maxRecDepth 100000 in
set_option maxHeartbeats 1000000 in
theorem r6 (l : List Int) (hl : l.length ≤ 20) (w : Cur) (hw : w.b ≠ 0) (hd : w.d.length < 70368744177664) (j : Nat) (n : Int) (hn : l[j]? = some n) : Runs Try.prog 0 (loopN Try.prog 6 0) (St.as (I6 l w j) 95) (.normal) (St.as (I6 l w (j+1)) 95) := by
  refine round_wp (p := condP (decide ((↑j : Int) < (↑(List.map (D.int IntKind.i64) l).length : Int))) (((0 : Int) ≤ (↑j : Int)) ∧ (((List.map (D.int IntKind.i64) l)[(↑j : Int).toNat]? = some (D.int IntKind.i64 n)) ∧ ((FnOK Try.prog (9 : Nat) [AV.d (D.agg [D.str w.d, D.int IntKind.i64 w.i, D.int IntKind.i64 w.b]), AV.d (D.int IntKind.i64 n)] [] (AV.tup [AV.d (D.agg [D.str w.d, D.int IntKind.i64 w.i, D.int IntKind.i64 w.b]), AV.d (D.int IntKind.i64 (0 : Int))]) []) ∧ (((0 : Int) ≤ (↑j : Int)) ∧ (((List.map (D.int IntKind.i64) l)[(↑j : Int).toNat]? = some (D.int IntKind.i64 n)) ∧ ((FnOK Try.prog (11 : Nat) [AV.d (D.agg [D.str w.d, D.int IntKind.i64 w.i, D.int IntKind.i64 w.b]), AV.d (D.int IntKind.i64 n)] [] (AV.tup [AV.d (D.agg [D.str w.d, D.int IntKind.i64 w.i, D.int IntKind.i64 w.b]), AV.d (D.str [])]) []) ∧ ((FnOK Try.prog (13 : Nat) [AV.d (D.agg [D.str w.d, D.int IntKind.i64 w.i, D.int IntKind.i64 w.b])] [] (AV.tup [AV.d (D.agg [D.str w.d, D.int IntKind.i64 w.i, D.int IntKind.i64 w.b]), AV.d (D.str [])]) []) ∧ ((D.bool false = D.bool false) ∧ ((D.bool false = D.bool false) ∧ ((D.bool false = D.bool false) ∧ (condP (!(w.d == w.d && (w.i == w.i && (w.b == w.b && true)))) (False) ((AV.d (D.sl (List.map (D.int IntKind.i64) l)) = AV.d (D.sl (List.map (D.int IntKind.i64) l))) ∧ ((AV.ptr (1 : Nat) (0 : Nat) = AV.ptr (1 : Nat) (0 : Nat)) ∧ ((AV.ptr (2 : Nat) (0 : Nat) = AV.ptr (2 : Nat) (0 : Nat)) ∧ ((AV.d (D.int IntKind.i64 (IntKind.i64.wrap ((↑j : Int) + (1 : Int)))) = AV.d (D.int IntKind.i64 (↑(j + (1 : Nat)) : Int))) ∧ ((Ob.box [AV.d (D.str w.d), AV.d (D.int IntKind.i64 w.i), AV.d (D.int IntKind.i64 w.b)] = Ob.box [AV.d (D.str w.d), AV.d (D.int IntKind.i64 w.i), AV.d (D.int IntKind.i64 w.b)]) ∧ ((Ob.box [AV.d (D.str w.d), AV.d (D.int IntKind.i64 w.i), AV.d (D.int IntKind.i64 w.b)] = Ob.box [AV.d (D.str w.d), AV.d (D.int IntKind.i64 w.i), AV.d (D.int IntKind.i64 w.b)]) ∧ (True)))))))))))))))))) (False)) (h := {H := [(9, [(5, .call [] (.tup [.d (cD w), .d (.int .i64 0)]) [])]), (10, [(5, .call [] (.tup [.d (cD w), .d (.str [])]) [])]), (11, [(1, .call [] (.tup [.d (cD w), .d (.str [])]) [])])], chain := true, els := [(52, .el (.int .i64 n)), (61, .el (.int .i64 n))]}) (subs := []) (ws := []) (ρ := []) (by kernel_rfl) ?_
  have hj : j < l.length := (List.getElem?_eq_some_iff.1 hn).1
  have hv : IntKind.i64.wrap ((j : Int) + 1) = ((j + 1 : Nat) : Int) := by rw [IntKind.wrap_i64]; omega
  have h1 := number9' w hd n
  have h2 := take11 w hd n
  have h3 := rest13 w hd
  rw [(bad_all hw n).1] at h1
  rw [(bad_all hw n).2] at h2
  rw [(bad_all hw _).2] at h3
  rw [hv]
  refine condP_t (by rw [decide_eq_true_eq, List.length_map]; omega) ?_
  repeat' (first | with_reducible exact True.intro | with_reducible refine And.intro ?_ ?_ | with_reducible refine condP_dec (fun _ => ?_) (fun _ => ?_) | with_reducible refine condP_eq (fun _ => ?_) (fun _ => ?_) | with_reducible refine condP_ne (fun _ => ?_) (fun _ => ?_) | with_reducible refine condP_not (condP_dec (fun _ => ?_) (fun _ => ?_)) | with_reducible refine condP_not (condP_eq (fun _ => ?_) (fun _ => ?_)) | with_reducible refine condP_not (condP_intro (fun _ => ?_) (fun _ => ?_)) | with_reducible refine condP_intro (fun _ => ?_) (fun _ => ?_))
  all_goals first | exact el_map hn rfl | exact h1 | exact h2 | exact h3 | rfl | omega | (refine congrArg D.bool ?_; simp; done) | (exfalso; simp_all; done) | skip

set_option maxRecDepth 100000 in
set_option maxHeartbeats 1000000 in
theorem q6 (l : List Int) (w : Cur) : Runs Try.prog 0 (loopN Try.prog 6 0) (St.as (I6 l w l.length) 95) (.exit 0) (St.as (I6 l w l.length) 95) := by
  refine round_wp (p := condP (decide ((↑l.length : Int) < (↑(List.map (D.int IntKind.i64) l).length : Int))) (False) ((AV.d (D.sl (List.map (D.int IntKind.i64) l)) = AV.d (D.sl (List.map (D.int IntKind.i64) l))) ∧ ((AV.ptr (1 : Nat) (0 : Nat) = AV.ptr (1 : Nat) (0 : Nat)) ∧ ((AV.ptr (2 : Nat) (0 : Nat) = AV.ptr (2 : Nat) (0 : Nat)) ∧ ((AV.d (D.int IntKind.i64 (↑l.length : Int)) = AV.d (D.int IntKind.i64 (↑l.length : Int))) ∧ ((Ob.box [AV.d (D.str w.d), AV.d (D.int IntKind.i64 w.i), AV.d (D.int IntKind.i64 w.b)] = Ob.box [AV.d (D.str w.d), AV.d (D.int IntKind.i64 w.i), AV.d (D.int IntKind.i64 w.b)]) ∧ ((Ob.box [AV.d (D.str w.d), AV.d (D.int IntKind.i64 w.i), AV.d (D.int IntKind.i64 w.b)] = Ob.box [AV.d (D.str w.d), AV.d (D.int IntKind.i64 w.i), AV.d (D.int IntKind.i64 w.b)]) ∧ (True)))))))) (h := {}) (subs := []) (ws := []) (ρ := []) (by kernel_rfl) ?_
  repeat' (first | with_reducible exact True.intro | with_reducible refine And.intro ?_ ?_ | with_reducible refine condP_dec (fun _ => ?_) (fun _ => ?_) | with_reducible refine condP_eq (fun _ => ?_) (fun _ => ?_) | with_reducible refine condP_ne (fun _ => ?_) (fun _ => ?_) | with_reducible refine condP_not (condP_dec (fun _ => ?_) (fun _ => ?_)) | with_reducible refine condP_not (condP_eq (fun _ => ?_) (fun _ => ?_)) | with_reducible refine condP_not (condP_intro (fun _ => ?_) (fun _ => ?_)) | with_reducible refine condP_intro (fun _ => ?_) (fun _ => ?_))
  all_goals (try simp only [List.length_map, AV.d.injEq, D.int.injEq, D.bool.injEq, D.str.injEq, D.sl.injEq, true_and, and_true, decide_eq_true_eq, decide_eq_false_iff_not, decide_eq_decide])
  all_goals (try simp only [List.length_map] at *)
  all_goals first | rfl | omega

theorem l6 (l : List Int) (hl : l.length ≤ 20) (w : Cur) (hw : w.b ≠ 0) (hd : w.d.length < 70368744177664) : Loops Try.prog 0 (loopN Try.prog 6 0) ((I6 l w 0).as 95) (.exit 0) ((I6 l w l.length).as 95) :=
  loops_n (I := fun j => (I6 l w j).as 95) (by simp) l.length 0 (by omega) (fun j _ hj => r6 l hl w hw hd j l[j] (by simp [hj])) (q6 l w)
theorem takeC_d (c : Cur) (n : Int) : (cTakeC c n).d = c.d := by unfold cTakeC; (repeat' split) <;> rfl
theorem numC_d (c : Cur) (n : Int) : (cNumC c n).d = c.d := by unfold cNumC; split; rfl; exact takeC_d c n
theorem first_bad (s : List UInt8) (m : Int) (m0 : 0 ≤ m) (m1 : m ≤ 2) : (cNumC (cTakeC (cOpen s) ((s.length : Int) - m)) 3).b ≠ 0 := by
  have hi : cIn (cOpen s) := by unfold cIn cOpen; dsimp only; omega
  by_cases h : (s.length : Int) - m < 0
  · rw [(take_neg (c := cOpen s) rfl hi h).1]
    have h1 := odd_no (c := ⟨(cOpen s).d, (cOpen s).i, 2⟩) (n := 3) (fun o => by have h := o.1; simp at h)
    rw [h1.1, (take_bad (c := ⟨(cOpen s).d, (cOpen s).i, 2⟩) (by simp)).1]; simp
  · have h0 : (cOpen s).i = 0 := rfl
    have hd : (cOpen s).d = s := rfl
    rw [(take_yes (c := cOpen s) rfl hi h (by rw [hd, h0]; omega)).1, hd, h0]
    have hi2 : cIn ⟨s, 0 + ((s.length : Int) - m), 0⟩ := by unfold cIn; dsimp only; omega
    rw [(odd_no (c := ⟨s, 0 + ((s.length : Int) - m), 0⟩) (n := 3) (fun o => by have := o.2.2; omega)).1]
    rw [(take_cut (c := ⟨s, 0 + ((s.length : Int) - m), 0⟩) (n := 3) rfl hi2 (by omega) (by dsimp only; omega)).1]
    simp
set_option maxRecDepth 100000 in
set_option maxHeartbeats 1000000 in
theorem stays6 (s : List UInt8) (n : Int) (n0 : 0 ≤ n) (n1 : n < 256) (l : List Int) (u w : Cur) (t : List UInt8) (m : Int) (hu : cTakeC (cOpen s) ((s.length : Int) - n % 3) = u) (ht : cTakeS (cOpen s) ((s.length : Int) - n % 3) = t) (hw : cNumC u 3 = w) (hm : cNumN u 3 = m) : FnOK Try.prog 6 ([.d (.str s), .d (.int .u8 n), .d (.sl (l.map (.int .i64)))]) ([]) (.d (.bool true)) ([]) := by
  refine fnOK_wp (p := condP (decide ((↑s.length : Int) > (100 : Int))) ((D.bool (decide ((↑s.length : Int) > (100 : Int))) = D.bool true) ∧ ((FnOK Try.prog (7 : Nat) [] [] (AV.d (D.bool true)) []) ∧ ((AV.d (D.bool true) = AV.d (D.bool true)) ∧ (True)))) ((D.bool (decide ((↑s.length : Int) > (100 : Int))) = D.bool false) ∧ (condP (decide ((↑(List.map (D.int IntKind.i64) l).length : Int) > (20 : Int))) ((FnOK Try.prog (7 : Nat) [] [] (AV.d (D.bool true)) []) ∧ ((AV.d (D.bool true) = AV.d (D.bool true)) ∧ (True))) ((FnOK Try.prog (20 : Nat) [AV.d (D.str s)] [] (AV.d (D.agg [D.str (cOpen s).d, D.int IntKind.i64 (cOpen s).i, D.int IntKind.i64 (cOpen s).b])) []) ∧ (((3 : Int) ≠ (0 : Int)) ∧ ((FnOK Try.prog (11 : Nat) [AV.d (D.agg [D.str (cOpen s).d, D.int IntKind.i64 (cOpen s).i, D.int IntKind.i64 (cOpen s).b]), AV.d (D.int IntKind.i64 (IntKind.i64.wrap ((↑s.length : Int) - IntKind.i64.wrap (n.tmod (3 : Int)))))] [] (AV.tup [AV.d (D.agg [D.str u.d, D.int IntKind.i64 u.i, D.int IntKind.i64 u.b]), AV.d (D.str t)]) []) ∧ ((FnOK Try.prog (9 : Nat) [AV.d (D.agg [D.str u.d, D.int IntKind.i64 u.i, D.int IntKind.i64 u.b]), AV.d (D.int IntKind.i64 (3 : Int))] [] (AV.tup [AV.d (D.agg [D.str w.d, D.int IntKind.i64 w.i, D.int IntKind.i64 w.b]), AV.d (D.int IntKind.i64 m)]) []) ∧ ((AV.d (D.sl (List.map (D.int IntKind.i64) l)) = AV.d (D.sl (List.map (D.int IntKind.i64) l))) ∧ ((AV.ptr (1056 : Nat) (0 : Nat) = AV.ptr (1056 : Nat) (0 : Nat)) ∧ ((AV.ptr (1072 : Nat) (0 : Nat) = AV.ptr (1072 : Nat) (0 : Nat)) ∧ ((AV.d (D.int IntKind.i64 (0 : Int)) = AV.d (D.int IntKind.i64 (0 : Int))) ∧ ((Ob.box [AV.d (D.str w.d), AV.d (D.int IntKind.i64 w.i), AV.d (D.int IntKind.i64 w.b)] = Ob.box [AV.d (D.str w.d), AV.d (D.int IntKind.i64 w.i), AV.d (D.int IntKind.i64 w.b)]) ∧ ((Ob.box [AV.d (D.str w.d), AV.d (D.int IntKind.i64 w.i), AV.d (D.int IntKind.i64 w.b)] = Ob.box [AV.d (D.str w.d), AV.d (D.int IntKind.i64 w.i), AV.d (D.int IntKind.i64 w.b)]) ∧ ((LoopsS Try.prog (0 : Nat) (loopN Try.prog (6 : Nat) (0 : Nat)) (I6 l w (0 : Nat)) (Exit.exit (0 : Nat)) (I6 l w l.length) (95 : Nat)) ∧ ((D.bool (w.b != (0 : Int)) = D.bool true) ∧ ((FnOK Try.prog (7 : Nat) [] [] (AV.d (D.bool true)) []) ∧ ((AV.d (D.bool true) = AV.d (D.bool true)) ∧ (True)))))))))))))))))) (h := {G := G2, H := [(3, [(8, .call [] (.tup [.d (cD u), .d (.str t)]) [])]), (4, [(1, .call [] (.tup [.d (cD w), .d (.int .i64 m)]) [])])], chain := true, free := [1]}) (subs := [⟨[], [], I6 l w 0, .exit 0, I6 l w l.length⟩]) (ws := []) (ρ := []) (by kernel_rfl) ?_
  refine condP_dec (fun h => ⟨dyes h, aw7, rfl, trivial⟩) (fun h => ⟨dno h, condP_dec (fun g => ⟨aw7, rfl, trivial⟩) (fun g => ?_)⟩)
  rw [List.length_map] at g
  have hb := first_bad s (n % 3) (by omega) (by omega)
  rw [hu, hw] at hb
  have hd : w.d = s := by rw [← hw, numC_d, ← hu, takeC_d]; rfl
  have hud : u.d = s := by rw [← hu, takeC_d]; rfl
  have hN : IntKind.i64.wrap ((s.length : Int) - IntKind.i64.wrap (n.tmod 3)) = (s.length : Int) - n % 3 := by rw [Int.tmod_eq_emod_of_nonneg n0]; simp only [IntKind.wrap_i64]; omega
  have h1 := take11 (cOpen s) (by show s.length < _; omega) ((s.length : Int) - n % 3)
  have h2 := number9' u (by rw [hud]; omega) 3
  unfold tkA at h1
  unfold numA at h2
  rw [hu, ht] at h1
  rw [hw, hm] at h2
  have hl := l6 l (by omega) w hb (by rw [hd]; omega)
  rw [hN]
  repeat' (first | with_reducible exact True.intro | with_reducible refine And.intro ?_ ?_ | with_reducible refine condP_dec (fun _ => ?_) (fun _ => ?_) | with_reducible refine condP_eq (fun _ => ?_) (fun _ => ?_) | with_reducible refine condP_ne (fun _ => ?_) (fun _ => ?_) | with_reducible refine condP_not (condP_dec (fun _ => ?_) (fun _ => ?_)) | with_reducible refine condP_not (condP_eq (fun _ => ?_) (fun _ => ?_)) | with_reducible refine condP_not (condP_intro (fun _ => ?_) (fun _ => ?_)) | with_reducible refine condP_intro (fun _ => ?_) (fun _ => ?_))
  all_goals first | exact aw7 | exact open20 s | exact h1 | exact h2 | exact hl | rfl | decide | (refine congrArg D.bool ?_; simp [hb]; done) | skip

theorem cursorStays_ok (x0 : D) (s0 : ∃ ds, CK.hasL [.str] ds ∧ (if false then x0 = .agg ds else ds = [x0])) (x1 : D) (s1 : ∃ ds, CK.hasL [.int .u8] ds ∧ (if false then x1 = .agg ds else ds = [x1])) (x2 : D) (s2 : ∃ ds, CK.hasL [.sl false [.int .i64]] ds ∧ (if false then x2 = .agg ds else ds = [x2])) :
    FnOK Try.prog 6 [.d x0, .d x1, .d x2] [] (.d (.bool true)) [] := by
  obtain ⟨s, rfl, -⟩ := has_str (ck1 s0)
  obtain ⟨n, rfl, n0, n1⟩ := has_u8 (ck1 s1)
  obtain ⟨l, rfl, -, -⟩ := hasl_i64 (ck1 s2)
  exact stays6 s n n0 n1 l _ _ _ _ rfl rfl rfl rfl
end Go.Proofs.Ytnkdkdjifalmbaa
