/-
laws 06: the document's Same, Count, Holds, First; Own, Back.
-/
import Derived.Test.YtkfiojolgkfbcaaS11
set_option linter.unusedSimpArgs false
set_option linter.unusedVariables false
namespace Go.Proofs.Ytkfiojolgkfbcaa
open Sx Go.RowKit

/-! ### Same -/
def I9 (a b : List Iv) (j : Nat) : St := ⟨[(0, .d (.sl (a.map ivD))), (1, .d (.sl (b.map ivD))), (5, .d (.int .i64 j))], []⟩
def O9 : St := ⟨[(4, .d (.bool false))], []⟩
set_option maxRecDepth 100000 in
set_option maxHeartbeats 1000000 in
theorem r9 (a b : List Iv) (hl : a.length < 1000000) (j : Nat) (x : Iv) (hx : a[j]? = some x) (hy : b[j]? = some x) : Runs Try.prog 0 (loopN Try.prog 9 0) (St.as (I9 a b j) 26) (.normal) (St.as (I9 a b (j+1)) 26) := by
  refine round_wp (p := condP (decide ((↑j : Int) < (↑(List.map ivD a).length : Int))) (((0 : Int) ≤ (↑j : Int)) ∧ (((List.map ivD a)[(↑j : Int).toNat]? = some (D.agg [D.int IntKind.i64 x.fst, D.int IntKind.i64 x.snd])) ∧ (((0 : Int) ≤ (↑j : Int)) ∧ (((List.map ivD b)[(↑j : Int).toNat]? = some (D.agg [D.int IntKind.i64 x.fst, D.int IntKind.i64 x.snd])) ∧ (((D.bool !(x.fst == x.fst && (x.snd == x.snd && true))) = D.bool false) ∧ ((AV.d (D.sl (List.map ivD a)) = AV.d (D.sl (List.map ivD a))) ∧ ((AV.d (D.sl (List.map ivD b)) = AV.d (D.sl (List.map ivD b))) ∧ ((AV.d (D.int IntKind.i64 (IntKind.i64.wrap ((↑j : Int) + (1 : Int)))) = AV.d (D.int IntKind.i64 (↑(j + (1 : Nat)) : Int))) ∧ (True))))))))) (False)) (h := {els := [(17, .el (ivD x)), (21, .el (ivD x))], H := [(6, [(8, .val (.bool false))])]}) (subs := []) (ws := []) (ρ := []) (by kernel_rfl) ?_
  have hj := get_lt hx
  have hj2 := get_lt hy
  have hi := inc_i64 (j := j) (by omega)
  simp only [hi, List.length_map]
  refine condP_t (by rw [decide_eq_true_eq]; omega) ?_
  repeat' (first | with_reducible exact True.intro | with_reducible refine And.intro ?_ ?_ | with_reducible refine condP_dec (fun _ => ?_) (fun _ => ?_) | with_reducible refine condP_eq (fun _ => ?_) (fun _ => ?_) | with_reducible refine condP_ne (fun _ => ?_) (fun _ => ?_) | with_reducible refine condP_not (condP_dec (fun _ => ?_) (fun _ => ?_)) | with_reducible refine condP_not (condP_eq (fun _ => ?_) (fun _ => ?_)) | with_reducible refine condP_not (condP_intro (fun _ => ?_) (fun _ => ?_)) | with_reducible refine condP_intro (fun _ => ?_) (fun _ => ?_))
  all_goals first | exact el_map hx rfl | exact el_map hy rfl | rfl | omega | (refine congrArg D.bool ?_; simp; done) | (exfalso; simp_all; done) | (refine congrArg D.bool ?_; rw [ivD_ne hne]; rfl) | (exfalso; have hq := ivD_ne hne; simp_all; done) | skip

set_option maxRecDepth 100000 in
set_option maxHeartbeats 1000000 in
theorem e9 (a b : List Iv) (hl : a.length < 1000000) (j : Nat) (x y : Iv) (hx : a[j]? = some x) (hy : b[j]? = some y) (hne : x ≠ y) : Runs Try.prog 0 (loopN Try.prog 9 0) (St.as (I9 a b j) 26) (.ret) (St.as (O9) 26) := by
  refine round_wp (p := condP (decide ((↑j : Int) < (↑(List.map ivD a).length : Int))) (((0 : Int) ≤ (↑j : Int)) ∧ (((List.map ivD a)[(↑j : Int).toNat]? = some (D.agg [D.int IntKind.i64 x.fst, D.int IntKind.i64 x.snd])) ∧ (((0 : Int) ≤ (↑j : Int)) ∧ (((List.map ivD b)[(↑j : Int).toNat]? = some (D.agg [D.int IntKind.i64 y.fst, D.int IntKind.i64 y.snd])) ∧ (((D.bool !(x.fst == y.fst && (x.snd == y.snd && true))) = D.bool true) ∧ ((AV.d (D.bool false) = AV.d (D.bool false)) ∧ (True))))))) (False)) (h := {els := [(17, .el (ivD x)), (21, .el (ivD y))], H := [(6, [(8, .val (.bool true))])]}) (subs := []) (ws := []) (ρ := []) (by kernel_rfl) ?_
  have hj := get_lt hx
  have hj2 := get_lt hy
  have hi := inc_i64 (j := j) (by omega)
  simp only [hi, List.length_map]
  refine condP_t (by rw [decide_eq_true_eq]; omega) ?_
  repeat' (first | with_reducible exact True.intro | with_reducible refine And.intro ?_ ?_ | with_reducible refine condP_dec (fun _ => ?_) (fun _ => ?_) | with_reducible refine condP_eq (fun _ => ?_) (fun _ => ?_) | with_reducible refine condP_ne (fun _ => ?_) (fun _ => ?_) | with_reducible refine condP_not (condP_dec (fun _ => ?_) (fun _ => ?_)) | with_reducible refine condP_not (condP_eq (fun _ => ?_) (fun _ => ?_)) | with_reducible refine condP_not (condP_intro (fun _ => ?_) (fun _ => ?_)) | with_reducible refine condP_intro (fun _ => ?_) (fun _ => ?_))
  all_goals first | exact el_map hx rfl | exact el_map hy rfl | rfl | omega | (refine congrArg D.bool ?_; simp; done) | (exfalso; simp_all; done) | (refine congrArg D.bool ?_; rw [ivD_ne hne]; rfl) | (exfalso; have hq := ivD_ne hne; simp_all; done) | skip

set_option maxRecDepth 100000 in
set_option maxHeartbeats 1000000 in
theorem q9 (a b : List Iv) : Runs Try.prog 0 (loopN Try.prog 9 0) (St.as (I9 a b a.length) 26) (.exit 0) (St.as (I9 a b a.length) 26) := by
  refine round_wp (p := condP (decide ((↑a.length : Int) < (↑(List.map ivD a).length : Int))) (False) ((AV.d (D.sl (List.map ivD a)) = AV.d (D.sl (List.map ivD a))) ∧ ((AV.d (D.sl (List.map ivD b)) = AV.d (D.sl (List.map ivD b))) ∧ ((AV.d (D.int IntKind.i64 (↑a.length : Int)) = AV.d (D.int IntKind.i64 (↑a.length : Int))) ∧ (True))))) (h := {}) (subs := []) (ws := []) (ρ := []) (by kernel_rfl) ?_
  repeat' (first | with_reducible exact True.intro | with_reducible refine And.intro ?_ ?_ | with_reducible refine condP_dec (fun _ => ?_) (fun _ => ?_) | with_reducible refine condP_eq (fun _ => ?_) (fun _ => ?_) | with_reducible refine condP_ne (fun _ => ?_) (fun _ => ?_) | with_reducible refine condP_not (condP_dec (fun _ => ?_) (fun _ => ?_)) | with_reducible refine condP_not (condP_eq (fun _ => ?_) (fun _ => ?_)) | with_reducible refine condP_not (condP_intro (fun _ => ?_) (fun _ => ?_)) | with_reducible refine condP_intro (fun _ => ?_) (fun _ => ?_))
  all_goals (try simp only [List.length_map, AV.d.injEq, D.int.injEq, D.bool.injEq, D.str.injEq, D.sl.injEq, true_and, and_true, decide_eq_true_eq, decide_eq_false_iff_not, decide_eq_decide])
  all_goals (try simp only [List.length_map] at *)
  all_goals first | rfl | omega

set_option maxRecDepth 100000 in
set_option maxHeartbeats 1000000 in
theorem same9l (a b : List Iv) (h : a.length ≠ b.length) (hL : True) : FnOK Try.prog 9 ([.d (.sl (a.map ivD)), .d (.sl (b.map ivD))]) ([]) (.d (.bool false)) ([]) := by
  refine fnOK_wp (p := (D.bool ((↑(List.map ivD a).length : Int) != (↑(List.map ivD b).length : Int)) = D.bool true) ∧ ((AV.d (D.bool false) = AV.d (D.bool false)) ∧ (True))) (h := {H := [(1, [(4, .val (.bool true))])]}) (subs := []) (ws := []) (ρ := []) (by kernel_rfl) ?_
  simp only [List.length_map]
  repeat' (first | with_reducible exact True.intro | with_reducible refine And.intro ?_ ?_ | with_reducible refine condP_dec (fun _ => ?_) (fun _ => ?_) | with_reducible refine condP_eq (fun _ => ?_) (fun _ => ?_) | with_reducible refine condP_ne (fun _ => ?_) (fun _ => ?_) | with_reducible refine condP_not (condP_dec (fun _ => ?_) (fun _ => ?_)) | with_reducible refine condP_not (condP_eq (fun _ => ?_) (fun _ => ?_)) | with_reducible refine condP_not (condP_intro (fun _ => ?_) (fun _ => ?_)) | with_reducible refine condP_intro (fun _ => ?_) (fun _ => ?_))
  all_goals first | exact hL | rfl | exact dno (by omega) | (exfalso; omega) | (refine congrArg D.bool ?_; simp; omega) | (exfalso; simp_all; done) | skip

set_option maxRecDepth 100000 in
set_option maxHeartbeats 1000000 in
theorem same9y (a b : List Iv) (h : a.length = b.length) (hL : Loops Try.prog 0 (loopN Try.prog 9 0) ((I9 a b 0).as 26) (.exit 0) ((I9 a b a.length).as 26)) : FnOK Try.prog 9 ([.d (.sl (a.map ivD)), .d (.sl (b.map ivD))]) ([]) (.d (.bool true)) ([]) := by
  refine fnOK_wp (p := (D.bool ((↑(List.map ivD a).length : Int) != (↑(List.map ivD b).length : Int)) = D.bool false) ∧ ((AV.d (D.sl (List.map ivD a)) = AV.d (D.sl (List.map ivD a))) ∧ ((AV.d (D.sl (List.map ivD b)) = AV.d (D.sl (List.map ivD b))) ∧ ((AV.d (D.int IntKind.i64 (0 : Int)) = AV.d (D.int IntKind.i64 (0 : Int))) ∧ ((LoopsS Try.prog (0 : Nat) (loopN Try.prog (9 : Nat) (0 : Nat)) (I9 a b (0 : Nat)) (Exit.exit (0 : Nat)) (I9 a b a.length) (26 : Nat)) ∧ ((AV.d (D.bool true) = AV.d (D.bool true)) ∧ (True))))))) (h := {H := [(1, [(4, .val (.bool false))])]}) (subs := [⟨[], [], I9 a b 0, .exit 0, I9 a b a.length⟩]) (ws := []) (ρ := []) (by kernel_rfl) ?_
  simp only [List.length_map]
  repeat' (first | with_reducible exact True.intro | with_reducible refine And.intro ?_ ?_ | with_reducible refine condP_dec (fun _ => ?_) (fun _ => ?_) | with_reducible refine condP_eq (fun _ => ?_) (fun _ => ?_) | with_reducible refine condP_ne (fun _ => ?_) (fun _ => ?_) | with_reducible refine condP_not (condP_dec (fun _ => ?_) (fun _ => ?_)) | with_reducible refine condP_not (condP_eq (fun _ => ?_) (fun _ => ?_)) | with_reducible refine condP_not (condP_intro (fun _ => ?_) (fun _ => ?_)) | with_reducible refine condP_intro (fun _ => ?_) (fun _ => ?_))
  all_goals first | exact hL | rfl | exact dno (by omega) | (exfalso; omega) | (refine congrArg D.bool ?_; simp; omega) | (exfalso; simp_all; done) | skip

set_option maxRecDepth 100000 in
set_option maxHeartbeats 1000000 in
theorem same9n (a b : List Iv) (h : a.length = b.length) (hL : Loops Try.prog 0 (loopN Try.prog 9 0) ((I9 a b 0).as 26) .ret (O9.as 26)) : FnOK Try.prog 9 ([.d (.sl (a.map ivD)), .d (.sl (b.map ivD))]) ([]) (.d (.bool false)) ([]) := by
  refine fnOK_wp (p := (D.bool ((↑(List.map ivD a).length : Int) != (↑(List.map ivD b).length : Int)) = D.bool false) ∧ ((AV.d (D.sl (List.map ivD a)) = AV.d (D.sl (List.map ivD a))) ∧ ((AV.d (D.sl (List.map ivD b)) = AV.d (D.sl (List.map ivD b))) ∧ ((AV.d (D.int IntKind.i64 (0 : Int)) = AV.d (D.int IntKind.i64 (0 : Int))) ∧ ((LoopsS Try.prog (0 : Nat) (loopN Try.prog (9 : Nat) (0 : Nat)) (I9 a b (0 : Nat)) Exit.ret O9 (26 : Nat)) ∧ ((AV.d (D.bool false) = AV.d (D.bool false)) ∧ (True))))))) (h := {H := [(1, [(4, .val (.bool false))])]}) (subs := [⟨[], [], I9 a b 0, .ret, O9⟩]) (ws := []) (ρ := []) (by kernel_rfl) ?_
  simp only [List.length_map]
  repeat' (first | with_reducible exact True.intro | with_reducible refine And.intro ?_ ?_ | with_reducible refine condP_dec (fun _ => ?_) (fun _ => ?_) | with_reducible refine condP_eq (fun _ => ?_) (fun _ => ?_) | with_reducible refine condP_ne (fun _ => ?_) (fun _ => ?_) | with_reducible refine condP_not (condP_dec (fun _ => ?_) (fun _ => ?_)) | with_reducible refine condP_not (condP_eq (fun _ => ?_) (fun _ => ?_)) | with_reducible refine condP_not (condP_intro (fun _ => ?_) (fun _ => ?_)) | with_reducible refine condP_intro (fun _ => ?_) (fun _ => ?_))
  all_goals first | exact hL | rfl | exact dno (by omega) | (exfalso; omega) | (refine congrArg D.bool ?_; simp; omega) | (exfalso; simp_all; done) | skip

theorem same9 (a b : List Iv) (hl : a.length < 1000000) : FnOK Try.prog 9 [.d (.sl (a.map ivD)), .d (.sl (b.map ivD))] [] (.d (.bool (decide (a = b)))) [] := by
  by_cases h : a.length = b.length
  · rcases diff_or a b h with e | ⟨m, x, y, h1, h2, h3, h4⟩
    · rw [decide_eq_true e]
      refine same9y a b h (loops_n (I := fun j => (I9 a b j).as 26) (by simp) a.length 0 (by omega) (fun j _ hj => r9 a b hl j a[j] (get_of hj) (by rw [← e]; exact get_of hj)) (q9 a b))
    · have hm := get_lt h1
      rw [decide_eq_false (by rintro rfl; rw [h1] at h2; cases h2; exact h3 rfl)]
      exact same9n a b h (loops_n (I := fun j => (I9 a b j).as 26) (by simp) m 0 (by omega) (fun j _ hj => r9 a b hl j (a[j]'(by omega)) (get_of _) (h4 j _ hj (get_of _))) (e9 a b hl m x y h1 h2 h3))
  · rw [decide_eq_false (by rintro rfl; exact h rfl)]; exact same9l a b h trivial
/-! ### Count -/
def I22 (s : List Iv) (n : Int) (j : Nat) : St := ⟨[(0, .d (.sl (s.map ivD))), (3, .d (.int .i64 n)), (4, .d (.int .i64 j))], []⟩
set_option maxRecDepth 100000 in
set_option maxHeartbeats 1000000 in
theorem r22 (s : List Iv) (hl : s.length < 1000000) (n : Int) (j : Nat) (y : Iv) (hn : s[j]? = some y) (k1 : FnOK Try.prog 20 [.d (.sl (s.map ivD))] [] (.d (.int .i64 0)) []) (h1 : IntKind.i64.wrap (y.2 - y.1) = y.2 - y.1) (h2 : IntKind.i64.wrap (n + (y.2 - y.1)) = n + (y.2 - y.1)) : Runs Try.prog 0 (loopN Try.prog 22 0) (St.as (I22 s n j) 30) (.normal) (St.as (I22 s (n + (y.2 - y.1)) (j+1)) 30) := by
  refine round_wp (p := (D.bool (decide ((↑j : Int) < (↑(List.map ivD s).length : Int))) = D.bool true) ∧ ((D.bool true = D.bool true) ∧ ((FnOK Try.prog (20 : Nat) [AV.d (D.sl (List.map ivD s))] [] (AV.d (D.int IntKind.i64 (0 : Int))) []) ∧ (((0 : Int) ≤ (↑j : Int)) ∧ (((List.map ivD s)[(↑j : Int).toNat]? = some (D.agg [D.int IntKind.i64 y.fst, D.int IntKind.i64 y.snd])) ∧ (((0 : Int) ≤ (↑j : Int)) ∧ (((List.map ivD s)[(↑j : Int).toNat]? = some (D.agg [D.int IntKind.i64 y.fst, D.int IntKind.i64 y.snd])) ∧ ((AV.d (D.sl (List.map ivD s)) = AV.d (D.sl (List.map ivD s))) ∧ ((AV.d (D.int IntKind.i64 (IntKind.i64.wrap (n + IntKind.i64.wrap (y.snd - y.fst)))) = AV.d (D.int IntKind.i64 (n + (y.snd - y.fst)))) ∧ ((AV.d (D.int IntKind.i64 (IntKind.i64.wrap ((↑j : Int) + (1 : Int)))) = AV.d (D.int IntKind.i64 (↑(j + (1 : Nat)) : Int))) ∧ (True))))))))))) (h := {els := [(17, .el (ivD y)), (22, .el (ivD y))], H := [(3, [(3, .val (.bool true))])], G := [(20, gAns (.d (.int .i64 0)))]}) (subs := []) (ws := []) (ρ := []) (by kernel_rfl) ?_
  have hj := get_lt hn
  have hi := inc_i64 (j := j) (by omega)
  simp only [hi, h1, h2, List.length_map]
  repeat' (first | with_reducible exact True.intro | with_reducible refine And.intro ?_ ?_ | with_reducible refine condP_dec (fun _ => ?_) (fun _ => ?_) | with_reducible refine condP_eq (fun _ => ?_) (fun _ => ?_) | with_reducible refine condP_ne (fun _ => ?_) (fun _ => ?_) | with_reducible refine condP_not (condP_dec (fun _ => ?_) (fun _ => ?_)) | with_reducible refine condP_not (condP_eq (fun _ => ?_) (fun _ => ?_)) | with_reducible refine condP_not (condP_intro (fun _ => ?_) (fun _ => ?_)) | with_reducible refine condP_intro (fun _ => ?_) (fun _ => ?_))
  all_goals first | exact k1 | exact el_map hn rfl | rfl | omega | exact dyes (by omega) | skip

set_option maxRecDepth 100000 in
set_option maxHeartbeats 1000000 in
theorem q22 (s : List Iv) (n : Int) : Runs Try.prog 0 (loopN Try.prog 22 0) (St.as (I22 s n s.length) 30) (.exit 0) (St.as (I22 s n s.length) 30) := by
  refine round_wp (p := (D.bool (decide ((↑s.length : Int) < (↑(List.map ivD s).length : Int))) = D.bool false) ∧ ((D.bool false = D.bool false) ∧ ((AV.d (D.sl (List.map ivD s)) = AV.d (D.sl (List.map ivD s))) ∧ ((AV.d (D.int IntKind.i64 n) = AV.d (D.int IntKind.i64 n)) ∧ ((AV.d (D.int IntKind.i64 (↑s.length : Int)) = AV.d (D.int IntKind.i64 (↑s.length : Int))) ∧ (True)))))) (h := {H := [(3, [(3, .val (.bool false))])]}) (subs := []) (ws := []) (ρ := []) (by kernel_rfl) ?_
  simp only [List.length_map]
  repeat' (first | with_reducible exact True.intro | with_reducible refine And.intro ?_ ?_ | with_reducible refine condP_dec (fun _ => ?_) (fun _ => ?_) | with_reducible refine condP_eq (fun _ => ?_) (fun _ => ?_) | with_reducible refine condP_ne (fun _ => ?_) (fun _ => ?_) | with_reducible refine condP_not (condP_dec (fun _ => ?_) (fun _ => ?_)) | with_reducible refine condP_not (condP_eq (fun _ => ?_) (fun _ => ?_)) | with_reducible refine condP_not (condP_intro (fun _ => ?_) (fun _ => ?_)) | with_reducible refine condP_intro (fun _ => ?_) (fun _ => ?_))
  all_goals first | rfl | omega | exact dno (by omega)

set_option maxRecDepth 100000 in
set_option maxHeartbeats 1000000 in
theorem q22n (s : List Iv) (x : Int) (hx : x ≠ 0) (k1 : FnOK Try.prog 20 [.d (.sl (s.map ivD))] [] (.d (.int .i64 x)) []) (hs : 0 < s.length) : Runs Try.prog 0 (loopN Try.prog 22 0) (St.as (I22 s 0 0) 30) (.exit 0) (St.as (I22 s 0 0) 30) := by
  refine round_wp (p := (D.bool (decide ((0 : Int) < (↑(List.map ivD s).length : Int))) = D.bool true) ∧ ((D.bool true = D.bool true) ∧ ((FnOK Try.prog (20 : Nat) [AV.d (D.sl (List.map ivD s))] [] (AV.d (D.int IntKind.i64 x)) []) ∧ ((D.bool (x == (0 : Int)) = D.bool false) ∧ ((AV.d (D.sl (List.map ivD s)) = AV.d (D.sl (List.map ivD s))) ∧ ((AV.d (D.int IntKind.i64 (0 : Int)) = AV.d (D.int IntKind.i64 (0 : Int))) ∧ ((AV.d (D.int IntKind.i64 (0 : Int)) = AV.d (D.int IntKind.i64 (0 : Int))) ∧ (True)))))))) (h := {H := [(3, [(3, .val (.bool true)), (7, .val (.bool false))])], G := [(20, gAns (.d (.int .i64 x)))]}) (subs := []) (ws := []) (ρ := []) (by kernel_rfl) ?_
  simp only [List.length_map]
  repeat' (first | with_reducible exact True.intro | with_reducible refine And.intro ?_ ?_ | with_reducible refine condP_dec (fun _ => ?_) (fun _ => ?_) | with_reducible refine condP_eq (fun _ => ?_) (fun _ => ?_) | with_reducible refine condP_ne (fun _ => ?_) (fun _ => ?_) | with_reducible refine condP_not (condP_dec (fun _ => ?_) (fun _ => ?_)) | with_reducible refine condP_not (condP_eq (fun _ => ?_) (fun _ => ?_)) | with_reducible refine condP_not (condP_intro (fun _ => ?_) (fun _ => ?_)) | with_reducible refine condP_intro (fun _ => ?_) (fun _ => ?_))
  all_goals first | exact k1 | rfl | omega | exact dyes (by omega) | (refine congrArg D.bool ?_; simpa using hx) | skip

set_option maxRecDepth 100000 in
set_option maxHeartbeats 1000000 in
theorem cnt22' (s : List Iv) (n : Int) (j : Nat) (hL : Loops Try.prog 0 (loopN Try.prog 22 0) ((I22 s 0 0).as 30) (.exit 0) ((I22 s n j).as 30)) : FnOK Try.prog 22 ([.d (.sl (s.map ivD))]) ([]) (.d (.int .i64 n)) ([]) := by
  refine fnOK_wp (p := (AV.d (D.sl (List.map ivD s)) = AV.d (D.sl (List.map ivD s))) ∧ ((AV.d (D.int IntKind.i64 (0 : Int)) = AV.d (D.int IntKind.i64 (0 : Int))) ∧ ((AV.d (D.int IntKind.i64 (0 : Int)) = AV.d (D.int IntKind.i64 (0 : Int))) ∧ ((LoopsS Try.prog (0 : Nat) (loopN Try.prog (22 : Nat) (0 : Nat)) (I22 s (0 : Int) (0 : Nat)) (Exit.exit (0 : Nat)) (I22 s n j) (30 : Nat)) ∧ ((AV.d (D.int IntKind.i64 n) = AV.d (D.int IntKind.i64 n)) ∧ (True)))))) (h := {}) (subs := [⟨[], [], I22 s 0 0, .exit 0, I22 s n j⟩]) (ws := []) (ρ := []) (by kernel_rfl) ?_
  repeat' (first | with_reducible exact True.intro | with_reducible refine And.intro ?_ ?_ | with_reducible refine condP_dec (fun _ => ?_) (fun _ => ?_) | with_reducible refine condP_eq (fun _ => ?_) (fun _ => ?_) | with_reducible refine condP_ne (fun _ => ?_) (fun _ => ?_) | with_reducible refine condP_not (condP_dec (fun _ => ?_) (fun _ => ?_)) | with_reducible refine condP_not (condP_eq (fun _ => ?_) (fun _ => ?_)) | with_reducible refine condP_not (condP_intro (fun _ => ?_) (fun _ => ?_)) | with_reducible refine condP_intro (fun _ => ?_) (fun _ => ?_))
  all_goals first | exact hL | rfl | skip

theorem count22 (s : List Iv) (hl : s.length < 1000000) : FnOK Try.prog 22 [.d (.sl (s.map ivD))] [] (.d (.int .i64 (rCount s))) [] := by
  have k1 := chk20 s hl
  unfold rCount
  by_cases h : iChk s = 0
  · rw [if_pos h]
    rw [h] at k1
    have ok := iChk_iff.1 h
    have hb : ∀ j, 0 ≤ cnt (s.take j) ∧ cnt (s.take j) ≤ 4611686018427387903 - (-1) := fun j => cnt_bd (srt_take j ok.srt) (fun x hx => ok.up x (List.mem_of_mem_take hx)) (by omega)
    have hL := loops_n (P := Try.prog) (k := 0) (c := loopN Try.prog 22 0) (e := .exit 0) (I := fun j => (I22 s (cnt (s.take j)) j).as 30) (by simp) s.length 0 (by omega) (fun j _ hj => by
      have hn := get_of hj
      have hm := srt_mem ok.srt _ (get_mem hn)
      have hu := ok.up _ (get_mem hn)
      have b1 := hb j
      have b2 := hb (j + 1)
      have e : cnt (s.take (j + 1)) = cnt (s.take j) + (s[j].2 - s[j].1) := by rw [take_snoc hn, cnt_append]; simp [cnt]
      show Runs _ _ _ _ _ ((I22 s (cnt (s.take (j + 1))) (j + 1)).as _)
      rw [e]
      rw [e] at b2
      exact r22 s hl _ j _ hn k1 (by rw [IntKind.wrap_i64]; omega) (by rw [IntKind.wrap_i64]; omega)) (by simp only [List.take_length]; exact q22 s (cnt s))
    exact cnt22' s _ _ hL
  · rw [if_neg h]
    refine cnt22' s 0 0 (.out (q22n s _ h k1 ?_) (by simp))
    cases s with
    | nil => exact absurd rfl h
    | cons x s => simp
/-! ### Holds, First -/
def stp (n : Int) (y : Iv) : Int := if n ≥ y.1 ∧ n < y.2 then y.2 else n
def itR (s : List Iv) (n : Int) : Nat → Int
  | 0 => n
  | k + 1 => s.foldl stp (itR s n k)
def I27 (s : List Iv) (x : Iv) (n : Int) (j : Nat) : St := ⟨[(0, .d (.sl (s.map ivD))), (3, .ptr 0 0), (5, .d (.int .i64 n)), (6, .d (.int .i64 j))], [(0, ivB x)]⟩
def J27 (s : List Iv) (x : Iv) (n : Int) (j i : Nat) : St := ⟨[(0, .d (.sl (s.map ivD))), (3, .ptr 0 0), (5, .d (.int .i64 n)), (6, .d (.int .i64 j)), (7, .d (.int .i64 i))], [(0, ivB x)]⟩
def I29 (s : List Iv) (n : Int) (j : Nat) : St := ⟨[(0, .d (.sl (s.map ivD))), (5, .d (.int .i64 n)), (6, .d (.int .i64 j))], []⟩
def J29 (s : List Iv) (n : Int) (j i : Nat) : St := ⟨[(0, .d (.sl (s.map ivD))), (5, .d (.int .i64 n)), (6, .d (.int .i64 j)), (7, .d (.int .i64 i))], []⟩
set_option maxRecDepth 100000 in
set_option maxHeartbeats 1000000 in
theorem r27a (s : List Iv) (hl : s.length < 1000000) (n : Int) (j i : Nat) (y : Iv) (hn : s[i]? = some y) (x : Iv) (h : n ≥ y.1) (h2 : n < y.2) : Runs Try.prog 0 (loopN Try.prog 27 1) (St.as (J27 s x n j i) 47) (.normal) (St.as (J27 s x y.2 j (i+1)) 47) := by
  refine round_wp (p := condP (decide ((↑i : Int) < (↑(List.map ivD s).length : Int))) (((0 : Int) ≤ (↑i : Int)) ∧ (((List.map ivD s)[(↑i : Int).toNat]? = some (D.agg [D.int IntKind.i64 y.fst, D.int IntKind.i64 y.snd])) ∧ ((D.bool (decide (n ≥ y.fst)) = D.bool true) ∧ ((D.bool true = D.bool true) ∧ (((0 : Int) ≤ (↑i : Int)) ∧ (((List.map ivD s)[(↑i : Int).toNat]? = some (D.agg [D.int IntKind.i64 y.fst, D.int IntKind.i64 y.snd])) ∧ ((D.bool (decide (n < y.snd)) = D.bool true) ∧ (((0 : Int) ≤ (↑i : Int)) ∧ (((List.map ivD s)[(↑i : Int).toNat]? = some (D.agg [D.int IntKind.i64 y.fst, D.int IntKind.i64 y.snd])) ∧ ((AV.d (D.sl (List.map ivD s)) = AV.d (D.sl (List.map ivD s))) ∧ ((AV.ptr (0 : Nat) (0 : Nat) = AV.ptr (0 : Nat) (0 : Nat)) ∧ ((AV.d (D.int IntKind.i64 y.snd) = AV.d (D.int IntKind.i64 y.snd)) ∧ ((AV.d (D.int IntKind.i64 (↑j : Int)) = AV.d (D.int IntKind.i64 (↑j : Int))) ∧ ((AV.d (D.int IntKind.i64 (IntKind.i64.wrap ((↑i : Int) + (1 : Int)))) = AV.d (D.int IntKind.i64 (↑(i + (1 : Nat)) : Int))) ∧ ((Ob.box [AV.d (D.int IntKind.i64 x.fst), AV.d (D.int IntKind.i64 x.snd)] = Ob.box [AV.d (D.int IntKind.i64 x.fst), AV.d (D.int IntKind.i64 x.snd)]) ∧ (True)))))))))))))))) (False)) (h := {els := [(23, .el (ivD y)), (31, .el (ivD y)), (38, .el (ivD y))], H := [(8, [(6, .val (.bool true)), (14, .val (.bool true))])]}) (subs := []) (ws := []) (ρ := []) (by kernel_rfl) ?_
  have hj := get_lt hn
  have hi := inc_i64 (j := i) (by omega)
  simp only [hi, List.length_map]
  refine condP_t (by rw [decide_eq_true_eq]; omega) ?_
  repeat' (first | with_reducible exact True.intro | with_reducible refine And.intro ?_ ?_ | with_reducible refine condP_dec (fun _ => ?_) (fun _ => ?_) | with_reducible refine condP_eq (fun _ => ?_) (fun _ => ?_) | with_reducible refine condP_ne (fun _ => ?_) (fun _ => ?_) | with_reducible refine condP_not (condP_dec (fun _ => ?_) (fun _ => ?_)) | with_reducible refine condP_not (condP_eq (fun _ => ?_) (fun _ => ?_)) | with_reducible refine condP_not (condP_intro (fun _ => ?_) (fun _ => ?_)) | with_reducible refine condP_intro (fun _ => ?_) (fun _ => ?_))
  all_goals first | exact el_map hn rfl | rfl | omega | exact dyes (by omega) | exact dno (by omega) | skip

set_option maxRecDepth 100000 in
set_option maxHeartbeats 1000000 in
theorem r27b (s : List Iv) (hl : s.length < 1000000) (n : Int) (j i : Nat) (y : Iv) (hn : s[i]? = some y) (x : Iv) (h : n ≥ y.1) (h2 : ¬n < y.2) : Runs Try.prog 0 (loopN Try.prog 27 1) (St.as (J27 s x n j i) 47) (.normal) (St.as (J27 s x n j (i+1)) 47) := by
  refine round_wp (p := condP (decide ((↑i : Int) < (↑(List.map ivD s).length : Int))) (((0 : Int) ≤ (↑i : Int)) ∧ (((List.map ivD s)[(↑i : Int).toNat]? = some (D.agg [D.int IntKind.i64 y.fst, D.int IntKind.i64 y.snd])) ∧ ((D.bool (decide (n ≥ y.fst)) = D.bool true) ∧ ((D.bool true = D.bool true) ∧ (((0 : Int) ≤ (↑i : Int)) ∧ (((List.map ivD s)[(↑i : Int).toNat]? = some (D.agg [D.int IntKind.i64 y.fst, D.int IntKind.i64 y.snd])) ∧ ((D.bool (decide (n < y.snd)) = D.bool false) ∧ ((AV.d (D.sl (List.map ivD s)) = AV.d (D.sl (List.map ivD s))) ∧ ((AV.ptr (0 : Nat) (0 : Nat) = AV.ptr (0 : Nat) (0 : Nat)) ∧ ((AV.d (D.int IntKind.i64 n) = AV.d (D.int IntKind.i64 n)) ∧ ((AV.d (D.int IntKind.i64 (↑j : Int)) = AV.d (D.int IntKind.i64 (↑j : Int))) ∧ ((AV.d (D.int IntKind.i64 (IntKind.i64.wrap ((↑i : Int) + (1 : Int)))) = AV.d (D.int IntKind.i64 (↑(i + (1 : Nat)) : Int))) ∧ ((Ob.box [AV.d (D.int IntKind.i64 x.fst), AV.d (D.int IntKind.i64 x.snd)] = Ob.box [AV.d (D.int IntKind.i64 x.fst), AV.d (D.int IntKind.i64 x.snd)]) ∧ (True)))))))))))))) (False)) (h := {els := [(23, .el (ivD y)), (31, .el (ivD y))], H := [(8, [(6, .val (.bool true)), (14, .val (.bool false))])]}) (subs := []) (ws := []) (ρ := []) (by kernel_rfl) ?_
  have hj := get_lt hn
  have hi := inc_i64 (j := i) (by omega)
  simp only [hi, List.length_map]
  refine condP_t (by rw [decide_eq_true_eq]; omega) ?_
  repeat' (first | with_reducible exact True.intro | with_reducible refine And.intro ?_ ?_ | with_reducible refine condP_dec (fun _ => ?_) (fun _ => ?_) | with_reducible refine condP_eq (fun _ => ?_) (fun _ => ?_) | with_reducible refine condP_ne (fun _ => ?_) (fun _ => ?_) | with_reducible refine condP_not (condP_dec (fun _ => ?_) (fun _ => ?_)) | with_reducible refine condP_not (condP_eq (fun _ => ?_) (fun _ => ?_)) | with_reducible refine condP_not (condP_intro (fun _ => ?_) (fun _ => ?_)) | with_reducible refine condP_intro (fun _ => ?_) (fun _ => ?_))
  all_goals first | exact el_map hn rfl | rfl | omega | exact dyes (by omega) | exact dno (by omega) | skip

set_option maxRecDepth 100000 in
set_option maxHeartbeats 1000000 in
theorem r27c (s : List Iv) (hl : s.length < 1000000) (n : Int) (j i : Nat) (y : Iv) (hn : s[i]? = some y) (x : Iv) (h : ¬n ≥ y.1) : Runs Try.prog 0 (loopN Try.prog 27 1) (St.as (J27 s x n j i) 47) (.normal) (St.as (J27 s x n j (i+1)) 47) := by
  refine round_wp (p := condP (decide ((↑i : Int) < (↑(List.map ivD s).length : Int))) (((0 : Int) ≤ (↑i : Int)) ∧ (((List.map ivD s)[(↑i : Int).toNat]? = some (D.agg [D.int IntKind.i64 y.fst, D.int IntKind.i64 y.snd])) ∧ ((D.bool (decide (n ≥ y.fst)) = D.bool false) ∧ ((D.bool false = D.bool false) ∧ ((AV.d (D.sl (List.map ivD s)) = AV.d (D.sl (List.map ivD s))) ∧ ((AV.ptr (0 : Nat) (0 : Nat) = AV.ptr (0 : Nat) (0 : Nat)) ∧ ((AV.d (D.int IntKind.i64 n) = AV.d (D.int IntKind.i64 n)) ∧ ((AV.d (D.int IntKind.i64 (↑j : Int)) = AV.d (D.int IntKind.i64 (↑j : Int))) ∧ ((AV.d (D.int IntKind.i64 (IntKind.i64.wrap ((↑i : Int) + (1 : Int)))) = AV.d (D.int IntKind.i64 (↑(i + (1 : Nat)) : Int))) ∧ ((Ob.box [AV.d (D.int IntKind.i64 x.fst), AV.d (D.int IntKind.i64 x.snd)] = Ob.box [AV.d (D.int IntKind.i64 x.fst), AV.d (D.int IntKind.i64 x.snd)]) ∧ (True))))))))))) (False)) (h := {els := [(23, .el (ivD y))], H := [(8, [(6, .val (.bool false))])]}) (subs := []) (ws := []) (ρ := []) (by kernel_rfl) ?_
  have hj := get_lt hn
  have hi := inc_i64 (j := i) (by omega)
  simp only [hi, List.length_map]
  refine condP_t (by rw [decide_eq_true_eq]; omega) ?_
  repeat' (first | with_reducible exact True.intro | with_reducible refine And.intro ?_ ?_ | with_reducible refine condP_dec (fun _ => ?_) (fun _ => ?_) | with_reducible refine condP_eq (fun _ => ?_) (fun _ => ?_) | with_reducible refine condP_ne (fun _ => ?_) (fun _ => ?_) | with_reducible refine condP_not (condP_dec (fun _ => ?_) (fun _ => ?_)) | with_reducible refine condP_not (condP_eq (fun _ => ?_) (fun _ => ?_)) | with_reducible refine condP_not (condP_intro (fun _ => ?_) (fun _ => ?_)) | with_reducible refine condP_intro (fun _ => ?_) (fun _ => ?_))
  all_goals first | exact el_map hn rfl | rfl | omega | exact dyes (by omega) | exact dno (by omega) | skip

set_option maxRecDepth 100000 in
set_option maxHeartbeats 1000000 in
theorem q27 (s : List Iv) (x : Iv) (n : Int) (j : Nat) : Runs Try.prog 0 (loopN Try.prog 27 1) (St.as (J27 s x n j s.length) 47) (.exit 2) (St.as (J27 s x n j s.length) 47) := by
  refine round_wp (p := condP (decide ((↑s.length : Int) < (↑(List.map ivD s).length : Int))) (False) ((AV.d (D.sl (List.map ivD s)) = AV.d (D.sl (List.map ivD s))) ∧ ((AV.ptr (0 : Nat) (0 : Nat) = AV.ptr (0 : Nat) (0 : Nat)) ∧ ((AV.d (D.int IntKind.i64 n) = AV.d (D.int IntKind.i64 n)) ∧ ((AV.d (D.int IntKind.i64 (↑j : Int)) = AV.d (D.int IntKind.i64 (↑j : Int))) ∧ ((AV.d (D.int IntKind.i64 (↑s.length : Int)) = AV.d (D.int IntKind.i64 (↑s.length : Int))) ∧ ((Ob.box [AV.d (D.int IntKind.i64 x.fst), AV.d (D.int IntKind.i64 x.snd)] = Ob.box [AV.d (D.int IntKind.i64 x.fst), AV.d (D.int IntKind.i64 x.snd)]) ∧ (True)))))))) (h := {}) (subs := []) (ws := []) (ρ := []) (by kernel_rfl) ?_
  simp only [List.length_map]
  repeat' (first | with_reducible exact True.intro | with_reducible refine And.intro ?_ ?_ | with_reducible refine condP_dec (fun _ => ?_) (fun _ => ?_) | with_reducible refine condP_eq (fun _ => ?_) (fun _ => ?_) | with_reducible refine condP_ne (fun _ => ?_) (fun _ => ?_) | with_reducible refine condP_not (condP_dec (fun _ => ?_) (fun _ => ?_)) | with_reducible refine condP_not (condP_eq (fun _ => ?_) (fun _ => ?_)) | with_reducible refine condP_not (condP_intro (fun _ => ?_) (fun _ => ?_)) | with_reducible refine condP_intro (fun _ => ?_) (fun _ => ?_))
  all_goals (try simp only [List.length_map, AV.d.injEq, D.int.injEq, D.bool.injEq, D.str.injEq, D.sl.injEq, true_and, and_true, decide_eq_true_eq, decide_eq_false_iff_not, decide_eq_decide])
  all_goals (try simp only [List.length_map] at *)
  all_goals first | rfl | omega

set_option maxRecDepth 100000 in
set_option maxHeartbeats 1000000 in
theorem r29a (s : List Iv) (hl : s.length < 1000000) (n : Int) (j i : Nat) (y : Iv) (hn : s[i]? = some y) (h : n ≥ y.1) (h2 : n < y.2) : Runs Try.prog 0 (loopN Try.prog 29 1) (St.as (J29 s n j i) 44) (.normal) (St.as (J29 s y.2 j (i+1)) 44) := by
  refine round_wp (p := condP (decide ((↑i : Int) < (↑(List.map ivD s).length : Int))) (((0 : Int) ≤ (↑i : Int)) ∧ (((List.map ivD s)[(↑i : Int).toNat]? = some (D.agg [D.int IntKind.i64 y.fst, D.int IntKind.i64 y.snd])) ∧ ((D.bool (decide (n ≥ y.fst)) = D.bool true) ∧ ((D.bool true = D.bool true) ∧ (((0 : Int) ≤ (↑i : Int)) ∧ (((List.map ivD s)[(↑i : Int).toNat]? = some (D.agg [D.int IntKind.i64 y.fst, D.int IntKind.i64 y.snd])) ∧ ((D.bool (decide (n < y.snd)) = D.bool true) ∧ (((0 : Int) ≤ (↑i : Int)) ∧ (((List.map ivD s)[(↑i : Int).toNat]? = some (D.agg [D.int IntKind.i64 y.fst, D.int IntKind.i64 y.snd])) ∧ ((AV.d (D.sl (List.map ivD s)) = AV.d (D.sl (List.map ivD s))) ∧ ((AV.d (D.int IntKind.i64 y.snd) = AV.d (D.int IntKind.i64 y.snd)) ∧ ((AV.d (D.int IntKind.i64 (↑j : Int)) = AV.d (D.int IntKind.i64 (↑j : Int))) ∧ ((AV.d (D.int IntKind.i64 (IntKind.i64.wrap ((↑i : Int) + (1 : Int)))) = AV.d (D.int IntKind.i64 (↑(i + (1 : Nat)) : Int))) ∧ (True)))))))))))))) (False)) (h := {els := [(23, .el (ivD y)), (31, .el (ivD y)), (38, .el (ivD y))], H := [(8, [(6, .val (.bool true)), (14, .val (.bool true))])]}) (subs := []) (ws := []) (ρ := []) (by kernel_rfl) ?_
  have hj := get_lt hn
  have hi := inc_i64 (j := i) (by omega)
  simp only [hi, List.length_map]
  refine condP_t (by rw [decide_eq_true_eq]; omega) ?_
  repeat' (first | with_reducible exact True.intro | with_reducible refine And.intro ?_ ?_ | with_reducible refine condP_dec (fun _ => ?_) (fun _ => ?_) | with_reducible refine condP_eq (fun _ => ?_) (fun _ => ?_) | with_reducible refine condP_ne (fun _ => ?_) (fun _ => ?_) | with_reducible refine condP_not (condP_dec (fun _ => ?_) (fun _ => ?_)) | with_reducible refine condP_not (condP_eq (fun _ => ?_) (fun _ => ?_)) | with_reducible refine condP_not (condP_intro (fun _ => ?_) (fun _ => ?_)) | with_reducible refine condP_intro (fun _ => ?_) (fun _ => ?_))
  all_goals first | exact el_map hn rfl | rfl | omega | exact dyes (by omega) | exact dno (by omega) | skip

set_option maxRecDepth 100000 in
set_option maxHeartbeats 1000000 in
theorem r29b (s : List Iv) (hl : s.length < 1000000) (n : Int) (j i : Nat) (y : Iv) (hn : s[i]? = some y) (h : n ≥ y.1) (h2 : ¬n < y.2) : Runs Try.prog 0 (loopN Try.prog 29 1) (St.as (J29 s n j i) 44) (.normal) (St.as (J29 s n j (i+1)) 44) := by
  refine round_wp (p := condP (decide ((↑i : Int) < (↑(List.map ivD s).length : Int))) (((0 : Int) ≤ (↑i : Int)) ∧ (((List.map ivD s)[(↑i : Int).toNat]? = some (D.agg [D.int IntKind.i64 y.fst, D.int IntKind.i64 y.snd])) ∧ ((D.bool (decide (n ≥ y.fst)) = D.bool true) ∧ ((D.bool true = D.bool true) ∧ (((0 : Int) ≤ (↑i : Int)) ∧ (((List.map ivD s)[(↑i : Int).toNat]? = some (D.agg [D.int IntKind.i64 y.fst, D.int IntKind.i64 y.snd])) ∧ ((D.bool (decide (n < y.snd)) = D.bool false) ∧ ((AV.d (D.sl (List.map ivD s)) = AV.d (D.sl (List.map ivD s))) ∧ ((AV.d (D.int IntKind.i64 n) = AV.d (D.int IntKind.i64 n)) ∧ ((AV.d (D.int IntKind.i64 (↑j : Int)) = AV.d (D.int IntKind.i64 (↑j : Int))) ∧ ((AV.d (D.int IntKind.i64 (IntKind.i64.wrap ((↑i : Int) + (1 : Int)))) = AV.d (D.int IntKind.i64 (↑(i + (1 : Nat)) : Int))) ∧ (True)))))))))))) (False)) (h := {els := [(23, .el (ivD y)), (31, .el (ivD y))], H := [(8, [(6, .val (.bool true)), (14, .val (.bool false))])]}) (subs := []) (ws := []) (ρ := []) (by kernel_rfl) ?_
  have hj := get_lt hn
  have hi := inc_i64 (j := i) (by omega)
  simp only [hi, List.length_map]
  refine condP_t (by rw [decide_eq_true_eq]; omega) ?_
  repeat' (first | with_reducible exact True.intro | with_reducible refine And.intro ?_ ?_ | with_reducible refine condP_dec (fun _ => ?_) (fun _ => ?_) | with_reducible refine condP_eq (fun _ => ?_) (fun _ => ?_) | with_reducible refine condP_ne (fun _ => ?_) (fun _ => ?_) | with_reducible refine condP_not (condP_dec (fun _ => ?_) (fun _ => ?_)) | with_reducible refine condP_not (condP_eq (fun _ => ?_) (fun _ => ?_)) | with_reducible refine condP_not (condP_intro (fun _ => ?_) (fun _ => ?_)) | with_reducible refine condP_intro (fun _ => ?_) (fun _ => ?_))
  all_goals first | exact el_map hn rfl | rfl | omega | exact dyes (by omega) | exact dno (by omega) | skip

set_option maxRecDepth 100000 in
set_option maxHeartbeats 1000000 in
theorem r29c (s : List Iv) (hl : s.length < 1000000) (n : Int) (j i : Nat) (y : Iv) (hn : s[i]? = some y) (h : ¬n ≥ y.1) : Runs Try.prog 0 (loopN Try.prog 29 1) (St.as (J29 s n j i) 44) (.normal) (St.as (J29 s n j (i+1)) 44) := by
  refine round_wp (p := condP (decide ((↑i : Int) < (↑(List.map ivD s).length : Int))) (((0 : Int) ≤ (↑i : Int)) ∧ (((List.map ivD s)[(↑i : Int).toNat]? = some (D.agg [D.int IntKind.i64 y.fst, D.int IntKind.i64 y.snd])) ∧ ((D.bool (decide (n ≥ y.fst)) = D.bool false) ∧ ((D.bool false = D.bool false) ∧ ((AV.d (D.sl (List.map ivD s)) = AV.d (D.sl (List.map ivD s))) ∧ ((AV.d (D.int IntKind.i64 n) = AV.d (D.int IntKind.i64 n)) ∧ ((AV.d (D.int IntKind.i64 (↑j : Int)) = AV.d (D.int IntKind.i64 (↑j : Int))) ∧ ((AV.d (D.int IntKind.i64 (IntKind.i64.wrap ((↑i : Int) + (1 : Int)))) = AV.d (D.int IntKind.i64 (↑(i + (1 : Nat)) : Int))) ∧ (True))))))))) (False)) (h := {els := [(23, .el (ivD y))], H := [(8, [(6, .val (.bool false))])]}) (subs := []) (ws := []) (ρ := []) (by kernel_rfl) ?_
  have hj := get_lt hn
  have hi := inc_i64 (j := i) (by omega)
  simp only [hi, List.length_map]
  refine condP_t (by rw [decide_eq_true_eq]; omega) ?_
  repeat' (first | with_reducible exact True.intro | with_reducible refine And.intro ?_ ?_ | with_reducible refine condP_dec (fun _ => ?_) (fun _ => ?_) | with_reducible refine condP_eq (fun _ => ?_) (fun _ => ?_) | with_reducible refine condP_ne (fun _ => ?_) (fun _ => ?_) | with_reducible refine condP_not (condP_dec (fun _ => ?_) (fun _ => ?_)) | with_reducible refine condP_not (condP_eq (fun _ => ?_) (fun _ => ?_)) | with_reducible refine condP_not (condP_intro (fun _ => ?_) (fun _ => ?_)) | with_reducible refine condP_intro (fun _ => ?_) (fun _ => ?_))
  all_goals first | exact el_map hn rfl | rfl | omega | exact dyes (by omega) | exact dno (by omega) | skip

set_option maxRecDepth 100000 in
set_option maxHeartbeats 1000000 in
theorem q29 (s : List Iv) (n : Int) (j : Nat) : Runs Try.prog 0 (loopN Try.prog 29 1) (St.as (J29 s n j s.length) 44) (.exit 2) (St.as (J29 s n j s.length) 44) := by
  refine round_wp (p := condP (decide ((↑s.length : Int) < (↑(List.map ivD s).length : Int))) (False) ((AV.d (D.sl (List.map ivD s)) = AV.d (D.sl (List.map ivD s))) ∧ ((AV.d (D.int IntKind.i64 n) = AV.d (D.int IntKind.i64 n)) ∧ ((AV.d (D.int IntKind.i64 (↑j : Int)) = AV.d (D.int IntKind.i64 (↑j : Int))) ∧ ((AV.d (D.int IntKind.i64 (↑s.length : Int)) = AV.d (D.int IntKind.i64 (↑s.length : Int))) ∧ (True)))))) (h := {}) (subs := []) (ws := []) (ρ := []) (by kernel_rfl) ?_
  simp only [List.length_map]
  repeat' (first | with_reducible exact True.intro | with_reducible refine And.intro ?_ ?_ | with_reducible refine condP_dec (fun _ => ?_) (fun _ => ?_) | with_reducible refine condP_eq (fun _ => ?_) (fun _ => ?_) | with_reducible refine condP_ne (fun _ => ?_) (fun _ => ?_) | with_reducible refine condP_not (condP_dec (fun _ => ?_) (fun _ => ?_)) | with_reducible refine condP_not (condP_eq (fun _ => ?_) (fun _ => ?_)) | with_reducible refine condP_not (condP_intro (fun _ => ?_) (fun _ => ?_)) | with_reducible refine condP_intro (fun _ => ?_) (fun _ => ?_))
  all_goals (try simp only [List.length_map, AV.d.injEq, D.int.injEq, D.bool.injEq, D.str.injEq, D.sl.injEq, true_and, and_true, decide_eq_true_eq, decide_eq_false_iff_not, decide_eq_decide])
  all_goals (try simp only [List.length_map] at *)
  all_goals first | rfl | omega

theorem l27 (s : List Iv) (hl : s.length < 1000000) (x : Iv) (n : Int) (j : Nat) : Loops Try.prog 0 (loopN Try.prog 27 1) ((J27 s x n j 0).as 47) (.exit 2) ((J27 s x (s.foldl stp n) j s.length).as 47) := by
  have h := loops_n (P := Try.prog) (k := 0) (c := loopN Try.prog 27 1) (e := .exit 2) (I := fun i => (J27 s x ((s.take i).foldl stp n) j i).as 47) (by simp) s.length 0 (by omega) (fun i _ hi => ?_) (by simp only [List.take_length]; exact q27 s x _ j)
  · exact h
  · have hn := get_of hi
    show Runs _ _ _ _ _ ((J27 s x ((s.take (i + 1)).foldl stp n) j (i + 1)).as _)
    rw [take_snoc hn, List.foldl_append]
    show Runs _ _ _ _ _ ((J27 s x (stp _ s[i]) j (i + 1)).as _)
    unfold stp
    split
    · rename_i g; exact r27a s hl _ j i _ hn x g.1 g.2
    · rename_i g
      by_cases g1 : (s.take i).foldl stp n ≥ s[i].1
      · exact r27b s hl _ j i _ hn x g1 (fun g2 => g ⟨g1, g2⟩)
      · exact r27c s hl _ j i _ hn x g1
theorem l29 (s : List Iv) (hl : s.length < 1000000) (n : Int) (j : Nat) : Loops Try.prog 0 (loopN Try.prog 29 1) ((J29 s n j 0).as 44) (.exit 2) ((J29 s (s.foldl stp n) j s.length).as 44) := by
  have h := loops_n (P := Try.prog) (k := 0) (c := loopN Try.prog 29 1) (e := .exit 2) (I := fun i => (J29 s ((s.take i).foldl stp n) j i).as 44) (by simp) s.length 0 (by omega) (fun i _ hi => ?_) (by simp only [List.take_length]; exact q29 s _ j)
  · exact h
  · have hn := get_of hi
    show Runs _ _ _ _ _ ((J29 s ((s.take (i + 1)).foldl stp n) j (i + 1)).as _)
    rw [take_snoc hn, List.foldl_append]
    show Runs _ _ _ _ _ ((J29 s (stp _ s[i]) j (i + 1)).as _)
    unfold stp
    split
    · rename_i g; exact r29a s hl _ j i _ hn g.1 g.2
    · rename_i g
      by_cases g1 : (s.take i).foldl stp n ≥ s[i].1
      · exact r29b s hl _ j i _ hn g1 (fun g2 => g ⟨g1, g2⟩)
      · exact r29c s hl _ j i _ hn g1
set_option maxRecDepth 100000 in
set_option maxHeartbeats 1000000 in
theorem o27 (s : List Iv) (hl : s.length < 1000000) (x : Iv) (n m : Int) (j : Nat) (hj : j ≤ s.length) (hL : Loops Try.prog 0 (loopN Try.prog 27 1) ((J27 s x n j 0).as 47) (.exit 2) ((J27 s x m j s.length).as 47)) : Runs Try.prog 0 (loopN Try.prog 27 0) (St.as (I27 s x n j) 47) (.normal) (St.as (I27 s x m (j+1)) 47) := by
  refine round_wp (p := condP (decide ((↑j : Int) ≤ (↑(List.map ivD s).length : Int))) ((AV.d (D.sl (List.map ivD s)) = AV.d (D.sl (List.map ivD s))) ∧ ((AV.ptr (0 : Nat) (0 : Nat) = AV.ptr (0 : Nat) (0 : Nat)) ∧ ((AV.d (D.int IntKind.i64 n) = AV.d (D.int IntKind.i64 n)) ∧ ((AV.d (D.int IntKind.i64 (↑j : Int)) = AV.d (D.int IntKind.i64 (↑j : Int))) ∧ ((AV.d (D.int IntKind.i64 (0 : Int)) = AV.d (D.int IntKind.i64 (0 : Int))) ∧ ((Ob.box [AV.d (D.int IntKind.i64 x.fst), AV.d (D.int IntKind.i64 x.snd)] = Ob.box [AV.d (D.int IntKind.i64 x.fst), AV.d (D.int IntKind.i64 x.snd)]) ∧ ((LoopsS Try.prog (0 : Nat) (loopN Try.prog (27 : Nat) (1 : Nat)) (J27 s x n j (0 : Nat)) (Exit.exit (2 : Nat)) (J27 s x m j s.length) (47 : Nat)) ∧ ((AV.d (D.sl (List.map ivD s)) = AV.d (D.sl (List.map ivD s))) ∧ ((AV.ptr (0 : Nat) (0 : Nat) = AV.ptr (0 : Nat) (0 : Nat)) ∧ ((AV.d (D.int IntKind.i64 m) = AV.d (D.int IntKind.i64 m)) ∧ ((AV.d (D.int IntKind.i64 (IntKind.i64.wrap ((↑j : Int) + (1 : Int)))) = AV.d (D.int IntKind.i64 (↑(j + (1 : Nat)) : Int))) ∧ ((Ob.box [AV.d (D.int IntKind.i64 x.fst), AV.d (D.int IntKind.i64 x.snd)] = Ob.box [AV.d (D.int IntKind.i64 x.fst), AV.d (D.int IntKind.i64 x.snd)]) ∧ (True))))))))))))) (False)) (h := {}) (subs := [⟨[], [], J27 s x n j 0, .exit 2, J27 s x m j s.length⟩]) (ws := []) (ρ := []) (by kernel_rfl) ?_
  have hi := inc_i64 (j := j) (by omega)
  simp only [hi, List.length_map]
  refine condP_t (by rw [decide_eq_true_eq]; omega) ?_
  repeat' (first | with_reducible exact True.intro | with_reducible refine And.intro ?_ ?_ | with_reducible refine condP_dec (fun _ => ?_) (fun _ => ?_) | with_reducible refine condP_eq (fun _ => ?_) (fun _ => ?_) | with_reducible refine condP_ne (fun _ => ?_) (fun _ => ?_) | with_reducible refine condP_not (condP_dec (fun _ => ?_) (fun _ => ?_)) | with_reducible refine condP_not (condP_eq (fun _ => ?_) (fun _ => ?_)) | with_reducible refine condP_not (condP_intro (fun _ => ?_) (fun _ => ?_)) | with_reducible refine condP_intro (fun _ => ?_) (fun _ => ?_))
  all_goals first | exact hL | rfl | omega | skip

set_option maxRecDepth 100000 in
set_option maxHeartbeats 1000000 in
theorem p27 (s : List Iv) (x : Iv) (n : Int) : Runs Try.prog 0 (loopN Try.prog 27 0) (St.as (I27 s x n (s.length + 1)) 47) (.exit 0) (St.as (I27 s x n (s.length + 1)) 47) := by
  refine round_wp (p := condP (decide ((↑(s.length + (1 : Nat)) : Int) ≤ (↑(List.map ivD s).length : Int))) (False) ((AV.d (D.sl (List.map ivD s)) = AV.d (D.sl (List.map ivD s))) ∧ ((AV.ptr (0 : Nat) (0 : Nat) = AV.ptr (0 : Nat) (0 : Nat)) ∧ ((AV.d (D.int IntKind.i64 n) = AV.d (D.int IntKind.i64 n)) ∧ ((AV.d (D.int IntKind.i64 (↑(s.length + (1 : Nat)) : Int)) = AV.d (D.int IntKind.i64 (↑(s.length + (1 : Nat)) : Int))) ∧ ((Ob.box [AV.d (D.int IntKind.i64 x.fst), AV.d (D.int IntKind.i64 x.snd)] = Ob.box [AV.d (D.int IntKind.i64 x.fst), AV.d (D.int IntKind.i64 x.snd)]) ∧ (True))))))) (h := {}) (subs := []) (ws := []) (ρ := []) (by kernel_rfl) ?_
  simp only [List.length_map]
  repeat' (first | with_reducible exact True.intro | with_reducible refine And.intro ?_ ?_ | with_reducible refine condP_dec (fun _ => ?_) (fun _ => ?_) | with_reducible refine condP_eq (fun _ => ?_) (fun _ => ?_) | with_reducible refine condP_ne (fun _ => ?_) (fun _ => ?_) | with_reducible refine condP_not (condP_dec (fun _ => ?_) (fun _ => ?_)) | with_reducible refine condP_not (condP_eq (fun _ => ?_) (fun _ => ?_)) | with_reducible refine condP_not (condP_intro (fun _ => ?_) (fun _ => ?_)) | with_reducible refine condP_intro (fun _ => ?_) (fun _ => ?_))
  all_goals (try simp only [List.length_map, AV.d.injEq, D.int.injEq, D.bool.injEq, D.str.injEq, D.sl.injEq, true_and, and_true, decide_eq_true_eq, decide_eq_false_iff_not, decide_eq_decide])
  all_goals (try simp only [List.length_map] at *)
  all_goals first | rfl | omega

set_option maxRecDepth 100000 in
set_option maxHeartbeats 1000000 in
theorem o29 (s : List Iv) (hl : s.length < 1000000) (n m : Int) (j : Nat) (hj : j ≤ s.length) (hL : Loops Try.prog 0 (loopN Try.prog 29 1) ((J29 s n j 0).as 44) (.exit 2) ((J29 s m j s.length).as 44)) : Runs Try.prog 0 (loopN Try.prog 29 0) (St.as (I29 s n j) 44) (.normal) (St.as (I29 s m (j+1)) 44) := by
  refine round_wp (p := condP (decide ((↑j : Int) ≤ (↑(List.map ivD s).length : Int))) ((AV.d (D.sl (List.map ivD s)) = AV.d (D.sl (List.map ivD s))) ∧ ((AV.d (D.int IntKind.i64 n) = AV.d (D.int IntKind.i64 n)) ∧ ((AV.d (D.int IntKind.i64 (↑j : Int)) = AV.d (D.int IntKind.i64 (↑j : Int))) ∧ ((AV.d (D.int IntKind.i64 (0 : Int)) = AV.d (D.int IntKind.i64 (0 : Int))) ∧ ((LoopsS Try.prog (0 : Nat) (loopN Try.prog (29 : Nat) (1 : Nat)) (J29 s n j (0 : Nat)) (Exit.exit (2 : Nat)) (J29 s m j s.length) (44 : Nat)) ∧ ((AV.d (D.sl (List.map ivD s)) = AV.d (D.sl (List.map ivD s))) ∧ ((AV.d (D.int IntKind.i64 m) = AV.d (D.int IntKind.i64 m)) ∧ ((AV.d (D.int IntKind.i64 (IntKind.i64.wrap ((↑j : Int) + (1 : Int)))) = AV.d (D.int IntKind.i64 (↑(j + (1 : Nat)) : Int))) ∧ (True))))))))) (False)) (h := {}) (subs := [⟨[], [], J29 s n j 0, .exit 2, J29 s m j s.length⟩]) (ws := []) (ρ := []) (by kernel_rfl) ?_
  have hi := inc_i64 (j := j) (by omega)
  simp only [hi, List.length_map]
  refine condP_t (by rw [decide_eq_true_eq]; omega) ?_
  repeat' (first | with_reducible exact True.intro | with_reducible refine And.intro ?_ ?_ | with_reducible refine condP_dec (fun _ => ?_) (fun _ => ?_) | with_reducible refine condP_eq (fun _ => ?_) (fun _ => ?_) | with_reducible refine condP_ne (fun _ => ?_) (fun _ => ?_) | with_reducible refine condP_not (condP_dec (fun _ => ?_) (fun _ => ?_)) | with_reducible refine condP_not (condP_eq (fun _ => ?_) (fun _ => ?_)) | with_reducible refine condP_not (condP_intro (fun _ => ?_) (fun _ => ?_)) | with_reducible refine condP_intro (fun _ => ?_) (fun _ => ?_))
  all_goals first | exact hL | rfl | omega | skip

set_option maxRecDepth 100000 in
set_option maxHeartbeats 1000000 in
theorem p29 (s : List Iv) (n : Int) : Runs Try.prog 0 (loopN Try.prog 29 0) (St.as (I29 s n (s.length + 1)) 44) (.exit 0) (St.as (I29 s n (s.length + 1)) 44) := by
  refine round_wp (p := condP (decide ((↑(s.length + (1 : Nat)) : Int) ≤ (↑(List.map ivD s).length : Int))) (False) ((AV.d (D.sl (List.map ivD s)) = AV.d (D.sl (List.map ivD s))) ∧ ((AV.d (D.int IntKind.i64 n) = AV.d (D.int IntKind.i64 n)) ∧ ((AV.d (D.int IntKind.i64 (↑(s.length + (1 : Nat)) : Int)) = AV.d (D.int IntKind.i64 (↑(s.length + (1 : Nat)) : Int))) ∧ (True))))) (h := {}) (subs := []) (ws := []) (ρ := []) (by kernel_rfl) ?_
  simp only [List.length_map]
  repeat' (first | with_reducible exact True.intro | with_reducible refine And.intro ?_ ?_ | with_reducible refine condP_dec (fun _ => ?_) (fun _ => ?_) | with_reducible refine condP_eq (fun _ => ?_) (fun _ => ?_) | with_reducible refine condP_ne (fun _ => ?_) (fun _ => ?_) | with_reducible refine condP_not (condP_dec (fun _ => ?_) (fun _ => ?_)) | with_reducible refine condP_not (condP_eq (fun _ => ?_) (fun _ => ?_)) | with_reducible refine condP_not (condP_intro (fun _ => ?_) (fun _ => ?_)) | with_reducible refine condP_intro (fun _ => ?_) (fun _ => ?_))
  all_goals (try simp only [List.length_map, AV.d.injEq, D.int.injEq, D.bool.injEq, D.str.injEq, D.sl.injEq, true_and, and_true, decide_eq_true_eq, decide_eq_false_iff_not, decide_eq_decide])
  all_goals (try simp only [List.length_map] at *)
  all_goals first | rfl | omega

set_option maxRecDepth 100000 in
set_option maxHeartbeats 1000000 in
theorem holds27' (s : List Iv) (x : Iv) (m : Int) (hL : Loops Try.prog 0 (loopN Try.prog 27 0) ((I27 s x x.1 0).as 47) (.exit 0) ((I27 s x m (s.length + 1)).as 47)) : FnOK Try.prog 27 ([.d (.sl (s.map ivD)), .d (ivD x)]) ([]) (.d (.bool (decide (m ≥ x.2)))) ([]) := by
  refine fnOK_wp (p := (AV.d (D.sl (List.map ivD s)) = AV.d (D.sl (List.map ivD s))) ∧ ((AV.ptr (1024 : Nat) (0 : Nat) = AV.ptr (1024 : Nat) (0 : Nat)) ∧ ((AV.d (D.int IntKind.i64 x.fst) = AV.d (D.int IntKind.i64 x.fst)) ∧ ((AV.d (D.int IntKind.i64 (0 : Int)) = AV.d (D.int IntKind.i64 (0 : Int))) ∧ ((Ob.box [AV.d (D.int IntKind.i64 x.fst), AV.d (D.int IntKind.i64 x.snd)] = Ob.box [AV.d (D.int IntKind.i64 x.fst), AV.d (D.int IntKind.i64 x.snd)]) ∧ ((LoopsS Try.prog (0 : Nat) (loopN Try.prog (27 : Nat) (0 : Nat)) (I27 s x x.fst (0 : Nat)) (Exit.exit (0 : Nat)) (I27 s x m (s.length + (1 : Nat))) (47 : Nat)) ∧ ((AV.d (D.bool (decide (m ≥ x.snd))) = AV.d (D.bool (decide (m ≥ x.snd)))) ∧ (True)))))))) (h := {}) (subs := [⟨[], [], I27 s x x.1 0, .exit 0, I27 s x m (s.length + 1)⟩]) (ws := []) (ρ := []) (by kernel_rfl) ?_
  repeat' (first | with_reducible exact True.intro | with_reducible refine And.intro ?_ ?_ | with_reducible refine condP_dec (fun _ => ?_) (fun _ => ?_) | with_reducible refine condP_eq (fun _ => ?_) (fun _ => ?_) | with_reducible refine condP_ne (fun _ => ?_) (fun _ => ?_) | with_reducible refine condP_not (condP_dec (fun _ => ?_) (fun _ => ?_)) | with_reducible refine condP_not (condP_eq (fun _ => ?_) (fun _ => ?_)) | with_reducible refine condP_not (condP_intro (fun _ => ?_) (fun _ => ?_)) | with_reducible refine condP_intro (fun _ => ?_) (fun _ => ?_))
  all_goals first | exact hL | rfl | skip

set_option maxRecDepth 100000 in
set_option maxHeartbeats 1000000 in
theorem first29' (s : List Iv) (n n0 m : Int) (h0 : max 0 n = n0) (hL : Loops Try.prog 0 (loopN Try.prog 29 0) ((I29 s n0 0).as 44) (.exit 0) ((I29 s m (s.length + 1)).as 44)) : FnOK Try.prog 29 ([.d (.sl (s.map ivD)), .d (.int .i64 n)]) ([]) (.d (.int .i64 m)) ([]) := by
  refine fnOK_wp (p := (D.int IntKind.i64 (max (0 : Int) n) = D.int IntKind.i64 n0) ∧ ((AV.d (D.sl (List.map ivD s)) = AV.d (D.sl (List.map ivD s))) ∧ ((AV.d (D.int IntKind.i64 n0) = AV.d (D.int IntKind.i64 n0)) ∧ ((AV.d (D.int IntKind.i64 (0 : Int)) = AV.d (D.int IntKind.i64 (0 : Int))) ∧ ((LoopsS Try.prog (0 : Nat) (loopN Try.prog (29 : Nat) (0 : Nat)) (I29 s n0 (0 : Nat)) (Exit.exit (0 : Nat)) (I29 s m (s.length + (1 : Nat))) (44 : Nat)) ∧ ((AV.d (D.int IntKind.i64 m) = AV.d (D.int IntKind.i64 m)) ∧ (True))))))) (h := {H := [(1, [(1, .val (.int .i64 n0))])]}) (subs := [⟨[], [], I29 s n0 0, .exit 0, I29 s m (s.length + 1)⟩]) (ws := []) (ρ := []) (by kernel_rfl) ?_
  repeat' (first | with_reducible exact True.intro | with_reducible refine And.intro ?_ ?_ | with_reducible refine condP_dec (fun _ => ?_) (fun _ => ?_) | with_reducible refine condP_eq (fun _ => ?_) (fun _ => ?_) | with_reducible refine condP_ne (fun _ => ?_) (fun _ => ?_) | with_reducible refine condP_not (condP_dec (fun _ => ?_) (fun _ => ?_)) | with_reducible refine condP_not (condP_eq (fun _ => ?_) (fun _ => ?_)) | with_reducible refine condP_not (condP_intro (fun _ => ?_) (fun _ => ?_)) | with_reducible refine condP_intro (fun _ => ?_) (fun _ => ?_))
  all_goals first | exact hL | rfl | exact congrArg (D.int .i64) h0 | skip

theorem holds27 (s : List Iv) (hl : s.length < 100000) (x : Iv) : FnOK Try.prog 27 [.d (.sl (s.map ivD)), .d (ivD x)] [] (.d (.bool (decide (itR s x.1 (s.length + 1) ≥ x.2)))) [] :=
  holds27' s x _ (loops_n (P := Try.prog) (k := 0) (c := loopN Try.prog 27 0) (e := .exit 0) (I := fun j => (I27 s x (itR s x.1 j) j).as 47) (by simp) (s.length + 1) 0 (by omega) (fun j _ hj => o27 s (by omega) x _ _ j (by omega) (l27 s (by omega) x _ j)) (p27 s x _))
theorem first29 (s : List Iv) (hl : s.length < 100000) (n : Int) : FnOK Try.prog 29 [.d (.sl (s.map ivD)), .d (.int .i64 n)] [] (.d (.int .i64 (itR s (max 0 n) (s.length + 1)))) [] :=
  first29' s n _ _ rfl (loops_n (P := Try.prog) (k := 0) (c := loopN Try.prog 29 0) (e := .exit 0) (I := fun j => (I29 s (itR s (max 0 n) j) j).as 44) (by simp) (s.length + 1) 0 (by omega) (fun j _ hj => o29 s (by omega) _ _ j (by omega) (l29 s (by omega) _ j)) (p29 s _))
/-! ### Own, Back -/
def I8 (s : List Iv) (j : Nat) : St := ⟨[(0, .d (.sl (s.map ivD))), (3, .own 0 2), (4, .d (.int .i64 j))], [(0, .row 2 ((s.take j).map ivD))]⟩
set_option maxRecDepth 100000 in
set_option maxHeartbeats 1000000 in
theorem r8 (s : List Iv) (hl : s.length < 1000000) (j : Nat) (y : Iv) (hn : s[j]? = some y) : Runs Try.prog 0 (loopN Try.prog 8 0) (St.as (I8 s j) 19) (.normal) (St.as (I8 s (j+1)) 19) := by
  refine round_wp (p := condP (decide ((↑j : Int) < (↑(List.map ivD s).length : Int))) (((0 : Int) ≤ (↑j : Int)) ∧ (((List.map ivD s)[(↑j : Int).toNat]? = some (D.agg [D.int IntKind.i64 y.fst, D.int IntKind.i64 y.snd])) ∧ ((((List.map ivD (List.take j s)).length + [D.agg (List.take (2 : Nat) [D.int IntKind.i64 y.fst, D.int IntKind.i64 y.snd])].length) * (16 : Nat) ≤ (140737488355328 : Nat)) ∧ ((∀ (e : D), e ∈ chunk (2 : Nat) (1 : Nat) [D.int IntKind.i64 y.fst, D.int IntKind.i64 y.snd] → e.cells.length = (2 : Nat)) ∧ ((AV.d (D.sl (List.map ivD s)) = AV.d (D.sl (List.map ivD s))) ∧ ((AV.own (1136 : Nat) (2 : Nat) = AV.own (1136 : Nat) (2 : Nat)) ∧ ((AV.d (D.int IntKind.i64 (IntKind.i64.wrap ((↑j : Int) + (1 : Int)))) = AV.d (D.int IntKind.i64 (↑(j + (1 : Nat)) : Int))) ∧ ((Ob.row (2 : Nat) (List.map ivD (List.take j s) ++ [D.agg (List.take (2 : Nat) [D.int IntKind.i64 y.fst, D.int IntKind.i64 y.snd])]) = Ob.row (2 : Nat) (List.map ivD (List.take (j + (1 : Nat)) s))) ∧ (True))))))))) (False)) (h := {els := [(12, .el (ivD y))]}) (subs := []) (ws := []) (ρ := []) (by kernel_rfl) ?_
  have hj := get_lt hn
  have hi := inc_i64 (j := j) (by omega)
  have e5 : (s.take (j + 1)).map ivD = (s.take j).map ivD ++ [ivD y] := by rw [take_snoc hn, List.map_append]; rfl
  simp only [hi, List.length_map]
  refine condP_t (by rw [decide_eq_true_eq]; omega) ?_
  repeat' (first | with_reducible exact True.intro | with_reducible refine And.intro ?_ ?_ | with_reducible refine condP_dec (fun _ => ?_) (fun _ => ?_) | with_reducible refine condP_eq (fun _ => ?_) (fun _ => ?_) | with_reducible refine condP_ne (fun _ => ?_) (fun _ => ?_) | with_reducible refine condP_not (condP_dec (fun _ => ?_) (fun _ => ?_)) | with_reducible refine condP_not (condP_eq (fun _ => ?_) (fun _ => ?_)) | with_reducible refine condP_not (condP_intro (fun _ => ?_) (fun _ => ?_)) | with_reducible refine condP_intro (fun _ => ?_) (fun _ => ?_))
  all_goals first | exact el_map hn rfl | rfl | omega | exact congrArg (Ob.row 2) e5.symm | (simp only [List.length_map, List.length_take, List.length_cons, List.length_nil]; omega) | (simp [chunk, ivD, D.cells]; done) | skip

set_option maxRecDepth 100000 in
set_option maxHeartbeats 1000000 in
theorem q8 (s : List Iv) : Runs Try.prog 0 (loopN Try.prog 8 0) (St.as (I8 s s.length) 19) (.exit 0) (St.as (I8 s s.length) 19) := by
  refine round_wp (p := condP (decide ((↑s.length : Int) < (↑(List.map ivD s).length : Int))) (False) ((AV.d (D.sl (List.map ivD s)) = AV.d (D.sl (List.map ivD s))) ∧ ((AV.own (0 : Nat) (2 : Nat) = AV.own (0 : Nat) (2 : Nat)) ∧ ((AV.d (D.int IntKind.i64 (↑s.length : Int)) = AV.d (D.int IntKind.i64 (↑s.length : Int))) ∧ ((Ob.row (2 : Nat) (List.map ivD (List.take s.length s)) = Ob.row (2 : Nat) (List.map ivD (List.take s.length s))) ∧ (True)))))) (h := {}) (subs := []) (ws := []) (ρ := []) (by kernel_rfl) ?_
  simp only [List.length_map]
  repeat' (first | with_reducible exact True.intro | with_reducible refine And.intro ?_ ?_ | with_reducible refine condP_dec (fun _ => ?_) (fun _ => ?_) | with_reducible refine condP_eq (fun _ => ?_) (fun _ => ?_) | with_reducible refine condP_ne (fun _ => ?_) (fun _ => ?_) | with_reducible refine condP_not (condP_dec (fun _ => ?_) (fun _ => ?_)) | with_reducible refine condP_not (condP_eq (fun _ => ?_) (fun _ => ?_)) | with_reducible refine condP_not (condP_intro (fun _ => ?_) (fun _ => ?_)) | with_reducible refine condP_intro (fun _ => ?_) (fun _ => ?_))
  all_goals (try simp only [List.length_map, AV.d.injEq, D.int.injEq, D.bool.injEq, D.str.injEq, D.sl.injEq, true_and, and_true, decide_eq_true_eq, decide_eq_false_iff_not, decide_eq_decide])
  all_goals (try simp only [List.length_map] at *)
  all_goals first | rfl | omega

set_option maxRecDepth 100000 in
set_option maxHeartbeats 1000000 in
theorem own8' (s : List Iv) (hL : Loops Try.prog 0 (loopN Try.prog 8 0) ((I8 s 0).as 19) (.exit 0) ((I8 s s.length).as 19)) : FnOK Try.prog 8 ([.d (.sl (s.map ivD))]) ([]) (.d (.sl (s.map ivD))) ([]) := by
  refine fnOK_wp (p := (AV.d (D.sl (List.map ivD s)) = AV.d (D.sl (List.map ivD s))) ∧ ((AV.own (900 : Nat) (2 : Nat) = AV.own (900 : Nat) (2 : Nat)) ∧ ((AV.d (D.int IntKind.i64 (0 : Int)) = AV.d (D.int IntKind.i64 (0 : Int))) ∧ ((Ob.row (2 : Nat) [] = Ob.row (2 : Nat) []) ∧ ((LoopsS Try.prog (0 : Nat) (loopN Try.prog (8 : Nat) (0 : Nat)) (I8 s (0 : Nat)) (Exit.exit (0 : Nat)) (I8 s s.length) (19 : Nat)) ∧ ((AV.d (D.sl (List.map ivD (List.take s.length s))) = AV.d (D.sl (List.map ivD s))) ∧ (True))))))) (h := {}) (subs := [⟨[], [], I8 s 0, .exit 0, I8 s s.length⟩]) (ws := []) (ρ := []) (by kernel_rfl) ?_
  repeat' (first | with_reducible exact True.intro | with_reducible refine And.intro ?_ ?_ | with_reducible refine condP_dec (fun _ => ?_) (fun _ => ?_) | with_reducible refine condP_eq (fun _ => ?_) (fun _ => ?_) | with_reducible refine condP_ne (fun _ => ?_) (fun _ => ?_) | with_reducible refine condP_not (condP_dec (fun _ => ?_) (fun _ => ?_)) | with_reducible refine condP_not (condP_eq (fun _ => ?_) (fun _ => ?_)) | with_reducible refine condP_not (condP_intro (fun _ => ?_) (fun _ => ?_)) | with_reducible refine condP_intro (fun _ => ?_) (fun _ => ?_))
  all_goals first | exact hL | rfl | (rw [List.take_length]; done) | skip

set_option maxRecDepth 100000 in
set_option maxHeartbeats 1000000 in
theorem r10 (s : List Iv) (hl : s.length < 1000000) (j : Nat) (y : Iv) (hn : s[j]? = some y) : Runs Try.prog 0 (loopN Try.prog 10 0) (St.as (I8 s j) 19) (.normal) (St.as (I8 s (j+1)) 19) := by
  refine round_wp (p := condP (decide ((↑j : Int) < (↑(List.map ivD s).length : Int))) (((0 : Int) ≤ (↑j : Int)) ∧ (((List.map ivD s)[(↑j : Int).toNat]? = some (D.agg [D.int IntKind.i64 y.fst, D.int IntKind.i64 y.snd])) ∧ ((((List.map ivD (List.take j s)).length + [D.agg (List.take (2 : Nat) [D.int IntKind.i64 y.fst, D.int IntKind.i64 y.snd])].length) * (16 : Nat) ≤ (140737488355328 : Nat)) ∧ ((∀ (e : D), e ∈ chunk (2 : Nat) (1 : Nat) [D.int IntKind.i64 y.fst, D.int IntKind.i64 y.snd] → e.cells.length = (2 : Nat)) ∧ ((AV.d (D.sl (List.map ivD s)) = AV.d (D.sl (List.map ivD s))) ∧ ((AV.own (1136 : Nat) (2 : Nat) = AV.own (1136 : Nat) (2 : Nat)) ∧ ((AV.d (D.int IntKind.i64 (IntKind.i64.wrap ((↑j : Int) + (1 : Int)))) = AV.d (D.int IntKind.i64 (↑(j + (1 : Nat)) : Int))) ∧ ((Ob.row (2 : Nat) (List.map ivD (List.take j s) ++ [D.agg (List.take (2 : Nat) [D.int IntKind.i64 y.fst, D.int IntKind.i64 y.snd])]) = Ob.row (2 : Nat) (List.map ivD (List.take (j + (1 : Nat)) s))) ∧ (True))))))))) (False)) (h := {els := [(12, .el (ivD y))]}) (subs := []) (ws := []) (ρ := []) (by kernel_rfl) ?_
  have hj := get_lt hn
  have hi := inc_i64 (j := j) (by omega)
  have e5 : (s.take (j + 1)).map ivD = (s.take j).map ivD ++ [ivD y] := by rw [take_snoc hn, List.map_append]; rfl
  simp only [hi, List.length_map]
  refine condP_t (by rw [decide_eq_true_eq]; omega) ?_
  repeat' (first | with_reducible exact True.intro | with_reducible refine And.intro ?_ ?_ | with_reducible refine condP_dec (fun _ => ?_) (fun _ => ?_) | with_reducible refine condP_eq (fun _ => ?_) (fun _ => ?_) | with_reducible refine condP_ne (fun _ => ?_) (fun _ => ?_) | with_reducible refine condP_not (condP_dec (fun _ => ?_) (fun _ => ?_)) | with_reducible refine condP_not (condP_eq (fun _ => ?_) (fun _ => ?_)) | with_reducible refine condP_not (condP_intro (fun _ => ?_) (fun _ => ?_)) | with_reducible refine condP_intro (fun _ => ?_) (fun _ => ?_))
  all_goals first | exact el_map hn rfl | rfl | omega | exact congrArg (Ob.row 2) e5.symm | (simp only [List.length_map, List.length_take, List.length_cons, List.length_nil]; omega) | (simp [chunk, ivD, D.cells]; done) | skip

set_option maxRecDepth 100000 in
set_option maxHeartbeats 1000000 in
theorem q10 (s : List Iv) : Runs Try.prog 0 (loopN Try.prog 10 0) (St.as (I8 s s.length) 19) (.exit 0) (St.as (I8 s s.length) 19) := by
  refine round_wp (p := condP (decide ((↑s.length : Int) < (↑(List.map ivD s).length : Int))) (False) ((AV.d (D.sl (List.map ivD s)) = AV.d (D.sl (List.map ivD s))) ∧ ((AV.own (0 : Nat) (2 : Nat) = AV.own (0 : Nat) (2 : Nat)) ∧ ((AV.d (D.int IntKind.i64 (↑s.length : Int)) = AV.d (D.int IntKind.i64 (↑s.length : Int))) ∧ ((Ob.row (2 : Nat) (List.map ivD (List.take s.length s)) = Ob.row (2 : Nat) (List.map ivD (List.take s.length s))) ∧ (True)))))) (h := {}) (subs := []) (ws := []) (ρ := []) (by kernel_rfl) ?_
  simp only [List.length_map]
  repeat' (first | with_reducible exact True.intro | with_reducible refine And.intro ?_ ?_ | with_reducible refine condP_dec (fun _ => ?_) (fun _ => ?_) | with_reducible refine condP_eq (fun _ => ?_) (fun _ => ?_) | with_reducible refine condP_ne (fun _ => ?_) (fun _ => ?_) | with_reducible refine condP_not (condP_dec (fun _ => ?_) (fun _ => ?_)) | with_reducible refine condP_not (condP_eq (fun _ => ?_) (fun _ => ?_)) | with_reducible refine condP_not (condP_intro (fun _ => ?_) (fun _ => ?_)) | with_reducible refine condP_intro (fun _ => ?_) (fun _ => ?_))
  all_goals (try simp only [List.length_map, AV.d.injEq, D.int.injEq, D.bool.injEq, D.str.injEq, D.sl.injEq, true_and, and_true, decide_eq_true_eq, decide_eq_false_iff_not, decide_eq_decide])
  all_goals (try simp only [List.length_map] at *)
  all_goals first | rfl | omega

set_option maxRecDepth 100000 in
set_option maxHeartbeats 1000000 in
theorem back10' (s : List Iv) (hL : Loops Try.prog 0 (loopN Try.prog 10 0) ((I8 s 0).as 19) (.exit 0) ((I8 s s.length).as 19)) : FnOK Try.prog 10 ([.d (.sl (s.map ivD))]) ([]) (.d (.sl (s.map ivD))) ([]) := by
  refine fnOK_wp (p := (AV.d (D.sl (List.map ivD s)) = AV.d (D.sl (List.map ivD s))) ∧ ((AV.own (900 : Nat) (2 : Nat) = AV.own (900 : Nat) (2 : Nat)) ∧ ((AV.d (D.int IntKind.i64 (0 : Int)) = AV.d (D.int IntKind.i64 (0 : Int))) ∧ ((Ob.row (2 : Nat) [] = Ob.row (2 : Nat) []) ∧ ((LoopsS Try.prog (0 : Nat) (loopN Try.prog (10 : Nat) (0 : Nat)) (I8 s (0 : Nat)) (Exit.exit (0 : Nat)) (I8 s s.length) (19 : Nat)) ∧ ((AV.d (D.sl (List.map ivD (List.take s.length s))) = AV.d (D.sl (List.map ivD s))) ∧ (True))))))) (h := {}) (subs := [⟨[], [], I8 s 0, .exit 0, I8 s s.length⟩]) (ws := []) (ρ := []) (by kernel_rfl) ?_
  repeat' (first | with_reducible exact True.intro | with_reducible refine And.intro ?_ ?_ | with_reducible refine condP_dec (fun _ => ?_) (fun _ => ?_) | with_reducible refine condP_eq (fun _ => ?_) (fun _ => ?_) | with_reducible refine condP_ne (fun _ => ?_) (fun _ => ?_) | with_reducible refine condP_not (condP_dec (fun _ => ?_) (fun _ => ?_)) | with_reducible refine condP_not (condP_eq (fun _ => ?_) (fun _ => ?_)) | with_reducible refine condP_not (condP_intro (fun _ => ?_) (fun _ => ?_)) | with_reducible refine condP_intro (fun _ => ?_) (fun _ => ?_))
  all_goals first | exact hL | rfl | (rw [List.take_length]; done) | skip

theorem own8 (s : List Iv) (hl : s.length < 1000000) : FnOK Try.prog 8 [.d (.sl (s.map ivD))] [] (.d (.sl (s.map ivD))) [] :=
  own8' s (loops_n (I := fun j => (I8 s j).as 19) (by simp) s.length 0 (by omega) (fun j _ hj => r8 s hl j _ (get_of hj)) (q8 s))
theorem back10 (s : List Iv) (hl : s.length < 1000000) : FnOK Try.prog 10 [.d (.sl (s.map ivD))] [] (.d (.sl (s.map ivD))) [] :=
  back10' s (loops_n (I := fun j => (I8 s j).as 19) (by simp) s.length 0 (by omega) (fun j _ hj => r10 s hl j _ (get_of hj)) (q10 s))
end Go.Proofs.Ytkfiojolgkfbcaa
