/-
laws 12: the places that came; rows of places.
-/
import Derived.Test.YtmnglolholdmaaaS5
set_option linter.unusedSimpArgs false
set_option linter.unusedVariables false
namespace Go.Proofs.Ytmnglolholdmaaa
open Sx Go.RowKit

abbrev Iv := Int × Int
def ivD (x : Iv) : D := .agg [.int .i64 x.1, .int .i64 x.2]
theorem ivD_ne {x y : Iv} (h : x ≠ y) : (x.1 == y.1 && (x.2 == y.2 && true)) = false := by
  cases hq : (x.1 == y.1 && (x.2 == y.2 && true))
  · rfl
  · simp at hq
    exact absurd (Prod.ext hq.1 hq.2) h
/-! ### Two rows of places -/
def I20 (a b : List Iv) (j : Nat) : St := ⟨[(0, .d (.sl (a.map ivD))), (1, .d (.sl (b.map ivD))), (5, .d (.int .i64 j))], []⟩
def O20 : St := ⟨[(4, .d (.bool false))], []⟩
set_option maxRecDepth 100000 in
set_option maxHeartbeats 1000000 in
theorem r20 (a b : List Iv) (hl : a.length < 1000000) (j : Nat) (x : Iv) (hx : a[j]? = some x) (hy : b[j]? = some x) : Runs Try.prog 0 (loopN Try.prog 20 0) (St.as (I20 a b j) 26) (.normal) (St.as (I20 a b (j+1)) 26) := by
  refine round_wp (p := condP (decide ((↑j : Int) < (↑(List.map ivD a).length : Int))) (((0 : Int) ≤ (↑j : Int)) ∧ (((List.map ivD a)[(↑j : Int).toNat]? = some (D.agg [D.int IntKind.i64 x.fst, D.int IntKind.i64 x.snd])) ∧ (((0 : Int) ≤ (↑j : Int)) ∧ (((List.map ivD b)[(↑j : Int).toNat]? = some (D.agg [D.int IntKind.i64 x.fst, D.int IntKind.i64 x.snd])) ∧ (((D.bool !(x.fst == x.fst && (x.snd == x.snd && true))) = D.bool false) ∧ ((AV.d (D.sl (List.map ivD a)) = AV.d (D.sl (List.map ivD a))) ∧ ((AV.d (D.sl (List.map ivD b)) = AV.d (D.sl (List.map ivD b))) ∧ ((AV.d (D.int IntKind.i64 (IntKind.i64.wrap ((↑j : Int) + (1 : Int)))) = AV.d (D.int IntKind.i64 (↑(j + (1 : Nat)) : Int))) ∧ (True))))))))) (False)) (h := {els := [(17, .el (ivD x)), (21, .el (ivD x))], H := [(6, [(8, .val (.bool false))])]}) (subs := []) (ws := []) (ρ := []) (by kernel_rfl) ?_
  have hj := get_lt hx
  have hj2 := get_lt hy
  have hi := inc_i64 (j := j) (by omega)
  simp only [List.length_map, hi]
  refine condP_t (by rw [decide_eq_true_eq]; omega) ?_
  repeat' (first | with_reducible exact True.intro | with_reducible refine And.intro ?_ ?_ | with_reducible refine condP_dec (fun _ => ?_) (fun _ => ?_) | with_reducible refine condP_eq (fun _ => ?_) (fun _ => ?_) | with_reducible refine condP_ne (fun _ => ?_) (fun _ => ?_) | with_reducible refine condP_not (condP_dec (fun _ => ?_) (fun _ => ?_)) | with_reducible refine condP_not (condP_eq (fun _ => ?_) (fun _ => ?_)) | with_reducible refine condP_not (condP_intro (fun _ => ?_) (fun _ => ?_)) | with_reducible refine condP_intro (fun _ => ?_) (fun _ => ?_))
  all_goals first | exact el_map hx rfl | exact el_map hy rfl | rfl | omega | (refine congrArg D.bool ?_; simp; done) | (exfalso; simp_all; done) | (refine congrArg D.bool ?_; rw [ivD_ne hne]; rfl) | (exfalso; have hq := ivD_ne hne; simp_all; done) | skip

set_option maxRecDepth 100000 in
set_option maxHeartbeats 1000000 in
theorem e20 (a b : List Iv) (hl : a.length < 1000000) (j : Nat) (x y : Iv) (hx : a[j]? = some x) (hy : b[j]? = some y) (hne : x ≠ y) : Runs Try.prog 0 (loopN Try.prog 20 0) (St.as (I20 a b j) 26) (.ret) (St.as (O20) 26) := by
  refine round_wp (p := condP (decide ((↑j : Int) < (↑(List.map ivD a).length : Int))) (((0 : Int) ≤ (↑j : Int)) ∧ (((List.map ivD a)[(↑j : Int).toNat]? = some (D.agg [D.int IntKind.i64 x.fst, D.int IntKind.i64 x.snd])) ∧ (((0 : Int) ≤ (↑j : Int)) ∧ (((List.map ivD b)[(↑j : Int).toNat]? = some (D.agg [D.int IntKind.i64 y.fst, D.int IntKind.i64 y.snd])) ∧ (((D.bool !(x.fst == y.fst && (x.snd == y.snd && true))) = D.bool true) ∧ ((AV.d (D.bool false) = AV.d (D.bool false)) ∧ (True))))))) (False)) (h := {els := [(17, .el (ivD x)), (21, .el (ivD y))], H := [(6, [(8, .val (.bool true))])]}) (subs := []) (ws := []) (ρ := []) (by kernel_rfl) ?_
  have hj := get_lt hx
  have hj2 := get_lt hy
  have hi := inc_i64 (j := j) (by omega)
  simp only [List.length_map, hi]
  refine condP_t (by rw [decide_eq_true_eq]; omega) ?_
  repeat' (first | with_reducible exact True.intro | with_reducible refine And.intro ?_ ?_ | with_reducible refine condP_dec (fun _ => ?_) (fun _ => ?_) | with_reducible refine condP_eq (fun _ => ?_) (fun _ => ?_) | with_reducible refine condP_ne (fun _ => ?_) (fun _ => ?_) | with_reducible refine condP_not (condP_dec (fun _ => ?_) (fun _ => ?_)) | with_reducible refine condP_not (condP_eq (fun _ => ?_) (fun _ => ?_)) | with_reducible refine condP_not (condP_intro (fun _ => ?_) (fun _ => ?_)) | with_reducible refine condP_intro (fun _ => ?_) (fun _ => ?_))
  all_goals first | exact el_map hx rfl | exact el_map hy rfl | rfl | omega | (refine congrArg D.bool ?_; simp; done) | (exfalso; simp_all; done) | (refine congrArg D.bool ?_; rw [ivD_ne hne]; rfl) | (exfalso; have hq := ivD_ne hne; simp_all; done) | skip

set_option maxRecDepth 100000 in
set_option maxHeartbeats 1000000 in
theorem q20 (a b : List Iv) : Runs Try.prog 0 (loopN Try.prog 20 0) (St.as (I20 a b a.length) 26) (.exit 0) (St.as (I20 a b a.length) 26) := by
  refine round_wp (p := condP (decide ((↑a.length : Int) < (↑(List.map ivD a).length : Int))) (False) ((AV.d (D.sl (List.map ivD a)) = AV.d (D.sl (List.map ivD a))) ∧ ((AV.d (D.sl (List.map ivD b)) = AV.d (D.sl (List.map ivD b))) ∧ ((AV.d (D.int IntKind.i64 (↑a.length : Int)) = AV.d (D.int IntKind.i64 (↑a.length : Int))) ∧ (True))))) (h := {}) (subs := []) (ws := []) (ρ := []) (by kernel_rfl) ?_
  repeat' (first | with_reducible exact True.intro | with_reducible refine And.intro ?_ ?_ | with_reducible refine condP_dec (fun _ => ?_) (fun _ => ?_) | with_reducible refine condP_eq (fun _ => ?_) (fun _ => ?_) | with_reducible refine condP_ne (fun _ => ?_) (fun _ => ?_) | with_reducible refine condP_not (condP_dec (fun _ => ?_) (fun _ => ?_)) | with_reducible refine condP_not (condP_eq (fun _ => ?_) (fun _ => ?_)) | with_reducible refine condP_not (condP_intro (fun _ => ?_) (fun _ => ?_)) | with_reducible refine condP_intro (fun _ => ?_) (fun _ => ?_))
  all_goals (try simp only [List.length_map, AV.d.injEq, D.int.injEq, D.bool.injEq, D.str.injEq, D.sl.injEq, true_and, and_true, decide_eq_true_eq, decide_eq_false_iff_not, decide_eq_decide])
  all_goals (try simp only [List.length_map] at *)
  all_goals first | rfl | omega

set_option maxRecDepth 100000 in
set_option maxHeartbeats 1000000 in
theorem ivs20l (a b : List Iv) (h : a.length ≠ b.length) (hL : True) : FnOK Try.prog 20 ([.d (.sl (a.map ivD)), .d (.sl (b.map ivD))]) ([]) (.d (.bool false)) ([]) := by
  refine fnOK_wp (p := (D.bool ((↑(List.map ivD a).length : Int) != (↑(List.map ivD b).length : Int)) = D.bool true) ∧ ((AV.d (D.bool false) = AV.d (D.bool false)) ∧ (True))) (h := {H := [(1, [(4, .val (.bool true))])]}) (subs := []) (ws := []) (ρ := []) (by kernel_rfl) ?_
  simp only [List.length_map]
  repeat' (first | with_reducible exact True.intro | with_reducible refine And.intro ?_ ?_ | with_reducible refine condP_dec (fun _ => ?_) (fun _ => ?_) | with_reducible refine condP_eq (fun _ => ?_) (fun _ => ?_) | with_reducible refine condP_ne (fun _ => ?_) (fun _ => ?_) | with_reducible refine condP_not (condP_dec (fun _ => ?_) (fun _ => ?_)) | with_reducible refine condP_not (condP_eq (fun _ => ?_) (fun _ => ?_)) | with_reducible refine condP_not (condP_intro (fun _ => ?_) (fun _ => ?_)) | with_reducible refine condP_intro (fun _ => ?_) (fun _ => ?_))
  all_goals first | exact hL | rfl | exact dno (by omega) | exact dyes (by omega) | (refine congrArg D.bool ?_; simp_all; done) | (refine congrArg D.bool ?_; simp; omega) | (exfalso; omega) | skip

set_option maxRecDepth 100000 in
set_option maxHeartbeats 1000000 in
theorem ivs20n (a b : List Iv) (h : a.length = b.length) (hL : Loops Try.prog 0 (loopN Try.prog 20 0) ((I20 a b 0).as 26) .ret ((O20).as 26)) : FnOK Try.prog 20 ([.d (.sl (a.map ivD)), .d (.sl (b.map ivD))]) ([]) (.d (.bool false)) ([]) := by
  refine fnOK_wp (p := (D.bool ((↑(List.map ivD a).length : Int) != (↑(List.map ivD b).length : Int)) = D.bool false) ∧ ((AV.d (D.sl (List.map ivD a)) = AV.d (D.sl (List.map ivD a))) ∧ ((AV.d (D.sl (List.map ivD b)) = AV.d (D.sl (List.map ivD b))) ∧ ((AV.d (D.int IntKind.i64 (0 : Int)) = AV.d (D.int IntKind.i64 (0 : Int))) ∧ ((LoopsS Try.prog (0 : Nat) (loopN Try.prog (20 : Nat) (0 : Nat)) (I20 a b (0 : Nat)) Exit.ret O20 (26 : Nat)) ∧ ((AV.d (D.bool false) = AV.d (D.bool false)) ∧ (True))))))) (h := {H := [(1, [(4, .val (.bool false))])]}) (subs := [⟨[], [], I20 a b 0, .ret, O20⟩]) (ws := []) (ρ := []) (by kernel_rfl) ?_
  simp only [List.length_map]
  repeat' (first | with_reducible exact True.intro | with_reducible refine And.intro ?_ ?_ | with_reducible refine condP_dec (fun _ => ?_) (fun _ => ?_) | with_reducible refine condP_eq (fun _ => ?_) (fun _ => ?_) | with_reducible refine condP_ne (fun _ => ?_) (fun _ => ?_) | with_reducible refine condP_not (condP_dec (fun _ => ?_) (fun _ => ?_)) | with_reducible refine condP_not (condP_eq (fun _ => ?_) (fun _ => ?_)) | with_reducible refine condP_not (condP_intro (fun _ => ?_) (fun _ => ?_)) | with_reducible refine condP_intro (fun _ => ?_) (fun _ => ?_))
  all_goals first | exact hL | rfl | exact dno (by omega) | exact dyes (by omega) | (refine congrArg D.bool ?_; simp_all; done) | (refine congrArg D.bool ?_; simp; omega) | (exfalso; omega) | skip

set_option maxRecDepth 100000 in
set_option maxHeartbeats 1000000 in
theorem ivs20y (a b : List Iv) (h : a.length = b.length) (hL : Loops Try.prog 0 (loopN Try.prog 20 0) ((I20 a b 0).as 26) (.exit 0) ((I20 a b a.length).as 26)) : FnOK Try.prog 20 ([.d (.sl (a.map ivD)), .d (.sl (b.map ivD))]) ([]) (.d (.bool true)) ([]) := by
  refine fnOK_wp (p := (D.bool ((↑(List.map ivD a).length : Int) != (↑(List.map ivD b).length : Int)) = D.bool false) ∧ ((AV.d (D.sl (List.map ivD a)) = AV.d (D.sl (List.map ivD a))) ∧ ((AV.d (D.sl (List.map ivD b)) = AV.d (D.sl (List.map ivD b))) ∧ ((AV.d (D.int IntKind.i64 (0 : Int)) = AV.d (D.int IntKind.i64 (0 : Int))) ∧ ((LoopsS Try.prog (0 : Nat) (loopN Try.prog (20 : Nat) (0 : Nat)) (I20 a b (0 : Nat)) (Exit.exit (0 : Nat)) (I20 a b a.length) (26 : Nat)) ∧ ((AV.d (D.bool true) = AV.d (D.bool true)) ∧ (True))))))) (h := {H := [(1, [(4, .val (.bool false))])]}) (subs := [⟨[], [], I20 a b 0, .exit 0, I20 a b a.length⟩]) (ws := []) (ρ := []) (by kernel_rfl) ?_
  simp only [List.length_map]
  repeat' (first | with_reducible exact True.intro | with_reducible refine And.intro ?_ ?_ | with_reducible refine condP_dec (fun _ => ?_) (fun _ => ?_) | with_reducible refine condP_eq (fun _ => ?_) (fun _ => ?_) | with_reducible refine condP_ne (fun _ => ?_) (fun _ => ?_) | with_reducible refine condP_not (condP_dec (fun _ => ?_) (fun _ => ?_)) | with_reducible refine condP_not (condP_eq (fun _ => ?_) (fun _ => ?_)) | with_reducible refine condP_not (condP_intro (fun _ => ?_) (fun _ => ?_)) | with_reducible refine condP_intro (fun _ => ?_) (fun _ => ?_))
  all_goals first | exact hL | rfl | exact dno (by omega) | exact dyes (by omega) | (refine congrArg D.bool ?_; simp_all; done) | (refine congrArg D.bool ?_; simp; omega) | (exfalso; omega) | skip

theorem ivs20 (a b : List Iv) (hl : a.length < 1000000) : FnOK Try.prog 20 [.d (.sl (a.map ivD)), .d (.sl (b.map ivD))] [] (.d (.bool (decide (a = b)))) [] := by
  by_cases h : a.length = b.length
  · by_cases hc : a = b
    · rw [decide_eq_true hc]
      exact ivs20y a b h (loops_n (I := fun j => (I20 a b j).as 26) (by simp) a.length 0 (by omega) (fun j _ hj => r20 a b hl j _ (get_of hj) (by rw [← hc]; exact get_of hj)) (q20 a b))
    · obtain ⟨m, x, y, h1, h2, h3, h4⟩ := (diff_or _ _ h).resolve_left hc
      have hm := get_lt h1
      rw [decide_eq_false hc]
      exact ivs20n a b h (loops_n (I := fun j => (I20 a b j).as 26) (by simp) m 0 (by omega) (fun j _ hj => r20 a b hl j (a[j]'(by omega)) (get_of _) (h4 j _ hj (get_of _))) (e20 a b hl m x y h1 h2 h3))
  · rw [decide_eq_false (fun g => h (by rw [g]))]; exact ivs20l a b h trivial
/-! ### Handing over a row of places -/
def I21 (l : List Iv) (j : Nat) : St := ⟨[(0, .d (.sl (l.map ivD))), (3, .own 0 2), (4, .d (.int .i64 j))], [(0, .row 2 ((l.take j).map ivD))]⟩
set_option maxRecDepth 100000 in
set_option maxHeartbeats 1000000 in
theorem r21 (l : List Iv) (hl : l.length < 1000000) (j : Nat) (y : Iv) (hn : l[j]? = some y) : Runs Try.prog 0 (loopN Try.prog 21 0) (St.as (I21 l j) 19) (.normal) (St.as (I21 l (j+1)) 19) := by
  refine round_wp (p := condP (decide ((↑j : Int) < (↑(List.map ivD l).length : Int))) (((0 : Int) ≤ (↑j : Int)) ∧ (((List.map ivD l)[(↑j : Int).toNat]? = some (D.agg [D.int IntKind.i64 y.fst, D.int IntKind.i64 y.snd])) ∧ ((((List.map ivD (List.take j l)).length + [D.agg (List.take (2 : Nat) [D.int IntKind.i64 y.fst, D.int IntKind.i64 y.snd])].length) * (16 : Nat) ≤ (140737488355328 : Nat)) ∧ ((∀ (e : D), e ∈ chunk (2 : Nat) (1 : Nat) [D.int IntKind.i64 y.fst, D.int IntKind.i64 y.snd] → e.cells.length = (2 : Nat)) ∧ ((AV.d (D.sl (List.map ivD l)) = AV.d (D.sl (List.map ivD l))) ∧ ((AV.own (1136 : Nat) (2 : Nat) = AV.own (1136 : Nat) (2 : Nat)) ∧ ((AV.d (D.int IntKind.i64 (IntKind.i64.wrap ((↑j : Int) + (1 : Int)))) = AV.d (D.int IntKind.i64 (↑(j + (1 : Nat)) : Int))) ∧ ((Ob.row (2 : Nat) (List.map ivD (List.take j l) ++ [D.agg (List.take (2 : Nat) [D.int IntKind.i64 y.fst, D.int IntKind.i64 y.snd])]) = Ob.row (2 : Nat) (List.map ivD (List.take (j + (1 : Nat)) l))) ∧ (True))))))))) (False)) (h := {els := [(12, .el (ivD y))]}) (subs := []) (ws := []) (ρ := []) (by kernel_rfl) ?_
  have hj := get_lt hn
  rw [inc_i64 (by omega), take_map_snoc _ hn]
  refine condP_t (by rw [decide_eq_true_eq, List.length_map]; omega) ?_
  repeat' (first | with_reducible exact True.intro | with_reducible refine And.intro ?_ ?_ | with_reducible refine condP_dec (fun _ => ?_) (fun _ => ?_) | with_reducible refine condP_eq (fun _ => ?_) (fun _ => ?_) | with_reducible refine condP_ne (fun _ => ?_) (fun _ => ?_) | with_reducible refine condP_not (condP_dec (fun _ => ?_) (fun _ => ?_)) | with_reducible refine condP_not (condP_eq (fun _ => ?_) (fun _ => ?_)) | with_reducible refine condP_not (condP_intro (fun _ => ?_) (fun _ => ?_)) | with_reducible refine condP_intro (fun _ => ?_) (fun _ => ?_))
  all_goals first | exact el_map hn rfl | rfl | omega | (simp; omega) | (simp [chunk, ivD, D.cells]; done) | skip

set_option maxRecDepth 100000 in
set_option maxHeartbeats 1000000 in
theorem q21 (l : List Iv) : Runs Try.prog 0 (loopN Try.prog 21 0) (St.as (I21 l l.length) 19) (.exit 0) (St.as (I21 l l.length) 19) := by
  refine round_wp (p := condP (decide ((↑l.length : Int) < (↑(List.map ivD l).length : Int))) (False) ((AV.d (D.sl (List.map ivD l)) = AV.d (D.sl (List.map ivD l))) ∧ ((AV.own (0 : Nat) (2 : Nat) = AV.own (0 : Nat) (2 : Nat)) ∧ ((AV.d (D.int IntKind.i64 (↑l.length : Int)) = AV.d (D.int IntKind.i64 (↑l.length : Int))) ∧ ((Ob.row (2 : Nat) (List.map ivD (List.take l.length l)) = Ob.row (2 : Nat) (List.map ivD (List.take l.length l))) ∧ (True)))))) (h := {}) (subs := []) (ws := []) (ρ := []) (by kernel_rfl) ?_
  repeat' (first | with_reducible exact True.intro | with_reducible refine And.intro ?_ ?_ | with_reducible refine condP_dec (fun _ => ?_) (fun _ => ?_) | with_reducible refine condP_eq (fun _ => ?_) (fun _ => ?_) | with_reducible refine condP_ne (fun _ => ?_) (fun _ => ?_) | with_reducible refine condP_not (condP_dec (fun _ => ?_) (fun _ => ?_)) | with_reducible refine condP_not (condP_eq (fun _ => ?_) (fun _ => ?_)) | with_reducible refine condP_not (condP_intro (fun _ => ?_) (fun _ => ?_)) | with_reducible refine condP_intro (fun _ => ?_) (fun _ => ?_))
  all_goals (try simp only [List.length_map, AV.d.injEq, D.int.injEq, D.bool.injEq, D.str.injEq, D.sl.injEq, true_and, and_true, decide_eq_true_eq, decide_eq_false_iff_not, decide_eq_decide])
  all_goals (try simp only [List.length_map] at *)
  all_goals first | rfl | omega

set_option maxRecDepth 100000 in
set_option maxHeartbeats 1000000 in
theorem back21 (l : List Iv) (hl : l.length < 1000000) : FnOK Try.prog 21 ([.d (.sl (l.map ivD))]) ([]) (.d (.sl (l.map ivD))) ([]) := by
  refine fnOK_wp (p := (AV.d (D.sl (List.map ivD l)) = AV.d (D.sl (List.map ivD l))) ∧ ((AV.own (900 : Nat) (2 : Nat) = AV.own (900 : Nat) (2 : Nat)) ∧ ((AV.d (D.int IntKind.i64 (0 : Int)) = AV.d (D.int IntKind.i64 (0 : Int))) ∧ ((Ob.row (2 : Nat) [] = Ob.row (2 : Nat) []) ∧ ((LoopsS Try.prog (0 : Nat) (loopN Try.prog (21 : Nat) (0 : Nat)) (I21 l (0 : Nat)) (Exit.exit (0 : Nat)) (I21 l l.length) (19 : Nat)) ∧ ((AV.d (D.sl (List.map ivD (List.take l.length l))) = AV.d (D.sl (List.map ivD l))) ∧ (True))))))) (h := {}) (subs := [⟨[], [], I21 l 0, .exit 0, I21 l l.length⟩]) (ws := []) (ρ := []) (by kernel_rfl) ?_
  have h := loops_n (P := Try.prog) (k := 0) (c := loopN Try.prog 21 0) (e := .exit 0) (I := fun j => (I21 l j).as 19) (by simp) l.length 0 (by omega) (fun j _ hj => r21 l hl j l[j] (get_of hj)) (q21 l)
  repeat' (first | with_reducible exact True.intro | with_reducible refine And.intro ?_ ?_ | with_reducible refine condP_dec (fun _ => ?_) (fun _ => ?_) | with_reducible refine condP_eq (fun _ => ?_) (fun _ => ?_) | with_reducible refine condP_ne (fun _ => ?_) (fun _ => ?_) | with_reducible refine condP_not (condP_dec (fun _ => ?_) (fun _ => ?_)) | with_reducible refine condP_not (condP_eq (fun _ => ?_) (fun _ => ?_)) | with_reducible refine condP_not (condP_intro (fun _ => ?_) (fun _ => ?_)) | with_reducible refine condP_intro (fun _ => ?_) (fun _ => ?_))
  all_goals first | exact h | rfl | (rw [List.take_length]) | skip

/-! ### The places that came -/
def ivP (x : Pt) : Iv := (x.a, pEnd x)
def rBlk (s : Rq) (most : Int) : List Iv := if rChk s = 0 then (s.p.map ivP).take most.toNat else []
def rCame (s : Rq) : List Iv := if rChk s = 0 then s.p.map ivP else []
theorem rBad_mem {lim : Int} (hl : lim ≤ 1099511627776) : ∀ {l : List Pt} {e : Int}, 0 ≤ e → rBad lim e l = false → ∀ x ∈ l, (0 < x.a ∧ pEnd x ≤ lim ∧ x.d ≠ []) ∧ IntKind.i64.wrap (pEnd x) = pEnd x
  | [], e, e0, h, x, hx => by cases hx
  | y :: r, e, e0, h, x, hx => by
    unfold rBad at h
    rw [Bool.or_eq_false_iff] at h
    have hy := pBad_end e0 h.1
    rcases List.mem_cons.1 hx with rfl | hx
    · exact ⟨⟨by omega, hy.2.1, hy.2.2.2⟩, by rw [IntKind.wrap_i64]; omega⟩
    · exact rBad_mem hl hy.1 h.2 x hx
theorem chk_zero {s : Rq} (h : rChk s = 0) : (0 ≤ s.b ∧ s.b ≤ 1099511627776 ∧ s.r.length ≤ 4096 ∧ (s.r.length : Int) ≤ s.b) ∧ rBad (rLim s) s.b s.p = false := by
  unfold rChk at h
  cases ho : rOut s
  · rw [ho, if_neg (by simp)] at h
    refine ⟨rOut_no ho, ?_⟩
    cases hq : rBad (rLim s) s.b s.p
    · rfl
    · rw [hq] at h; simp at h
  · rw [ho] at h; simp at h
theorem ivp_take {l : List Pt} {j : Nat} {x : Pt} (h : l[j]? = some x) : (l.take (j + 1)).map ivP = (l.take j).map ivP ++ [ivP x] := by
  rw [take_snoc h, List.map_append]; rfl
def I24 (s : Rq) (most : Int) (j : Nat) : St := ⟨[(1, .d (.int .i64 most)), (2, .ptr 0 0), (5, .own 1 2), (12, .d (.sl (s.p.map ptD))), (13, .d (.int .i64 s.p.length)), (14, .d (.int .i64 j))], [(0, rqB s), (1, .row 2 ((((s.p.take j).map ivP).take most.toNat).map ivD))]⟩
set_option maxRecDepth 100000 in
set_option maxHeartbeats 1000000 in
theorem r24a (s : Rq) (hb : Rb s) (most : Int) (j : Nat) (x : Pt) (hn : s.p[j]? = some x) (hw : IntKind.i64.wrap (pEnd x) = pEnd x) (hm : (j : Int) < most) : Runs Try.prog 0 (loopN Try.prog 24 0) (St.as (I24 s most j) 32) (.normal) (St.as (I24 s most (j+1)) 32) := by
  refine round_wp (p := condP (decide ((↑j : Int) < (↑s.p.length : Int))) (((0 : Int) ≤ (↑j : Int)) ∧ (((List.map ptD s.p)[(↑j : Int).toNat]? = some (D.agg [D.int IntKind.i64 x.a, D.str x.d])) ∧ ((D.bool (decide ((↑(List.map ivD (List.take most.toNat (List.map ivP (List.take j s.p)))).length : Int) < most)) = D.bool true) ∧ ((FnOK Try.prog (33 : Nat) [AV.d (D.agg [D.int IntKind.i64 x.a, D.str x.d])] [] (AV.d (D.int IntKind.i64 (pEnd x))) []) ∧ ((((List.map ivD (List.take most.toNat (List.map ivP (List.take j s.p)))).length + [D.agg (List.take (2 : Nat) [D.int IntKind.i64 x.a, D.int IntKind.i64 (pEnd x)])].length) * (16 : Nat) ≤ (140737488355328 : Nat)) ∧ ((∀ (e : D), e ∈ chunk (2 : Nat) (1 : Nat) [D.int IntKind.i64 x.a, D.int IntKind.i64 (pEnd x)] → e.cells.length = (2 : Nat)) ∧ ((AV.d (D.int IntKind.i64 most) = AV.d (D.int IntKind.i64 most)) ∧ ((AV.ptr (0 : Nat) (0 : Nat) = AV.ptr (0 : Nat) (0 : Nat)) ∧ ((AV.own (1232 : Nat) (2 : Nat) = AV.own (1232 : Nat) (2 : Nat)) ∧ ((AV.d (D.sl (List.map ptD s.p)) = AV.d (D.sl (List.map ptD s.p))) ∧ ((AV.d (D.int IntKind.i64 (↑s.p.length : Int)) = AV.d (D.int IntKind.i64 (↑s.p.length : Int))) ∧ ((AV.d (D.int IntKind.i64 (IntKind.i64.wrap ((↑j : Int) + (1 : Int)))) = AV.d (D.int IntKind.i64 (↑(j + (1 : Nat)) : Int))) ∧ ((Ob.box [AV.d (D.int IntKind.i64 s.b), AV.d (D.str s.r), AV.d (D.sl (List.map ptD s.p))] = Ob.box [AV.d (D.int IntKind.i64 s.b), AV.d (D.str s.r), AV.d (D.sl (List.map ptD s.p))]) ∧ ((Ob.row (2 : Nat) (List.map ivD (List.take most.toNat (List.map ivP (List.take j s.p))) ++ [D.agg (List.take (2 : Nat) [D.int IntKind.i64 x.a, D.int IntKind.i64 (pEnd x)])]) = Ob.row (2 : Nat) (List.map ivD (List.take most.toNat (List.map ivP (List.take (j + (1 : Nat)) s.p))))) ∧ (True))))))))))))))) (False)) (h := {els := [(12, .el (ptD x))], G := [(33, gAns (.d (.int .i64 (pEnd x))))], H := [(7, [(3, .val (.bool true))])]}) (subs := []) (ws := []) (ρ := []) (by kernel_rfl) ?_
  have hj := get_lt hn
  have hp := hb.p
  have hi := inc_i64 (j := j) (by omega)
  have k1 := end33 x hw
  have hl1 : ((s.p.take j).map ivP).length = j := by simp; omega
  rw [hi, ivp_take hn]
  simp only [List.length_map, List.length_take, hl1]
  refine condP_t (by rw [decide_eq_true_eq]; omega) ?_
  have e1 : ((s.p.take j).map ivP).take most.toNat = (s.p.take j).map ivP := List.take_of_length_le (by rw [hl1]; omega)
  have e2 : ((s.p.take j).map ivP ++ [ivP x]).take most.toNat = (s.p.take j).map ivP ++ [ivP x] := List.take_of_length_le (by rw [List.length_append, hl1]; simp; omega)
  rw [e1, e2, List.map_append]
  repeat' (first | with_reducible exact True.intro | with_reducible refine And.intro ?_ ?_ | with_reducible refine condP_dec (fun _ => ?_) (fun _ => ?_) | with_reducible refine condP_eq (fun _ => ?_) (fun _ => ?_) | with_reducible refine condP_ne (fun _ => ?_) (fun _ => ?_) | with_reducible refine condP_not (condP_dec (fun _ => ?_) (fun _ => ?_)) | with_reducible refine condP_not (condP_eq (fun _ => ?_) (fun _ => ?_)) | with_reducible refine condP_not (condP_intro (fun _ => ?_) (fun _ => ?_)) | with_reducible refine condP_intro (fun _ => ?_) (fun _ => ?_))
  all_goals first | exact k1 | exact el_map hn rfl | rfl | omega | exact dyes (by omega) | (rw [List.length_map, hl1]; simp; omega) | (simp; omega) | (simp [chunk, ivD, D.cells]; done) | skip

set_option maxRecDepth 100000 in
set_option maxHeartbeats 1000000 in
theorem r24b (s : Rq) (hb : Rb s) (most : Int) (j : Nat) (x : Pt) (hn : s.p[j]? = some x) (hw : IntKind.i64.wrap (pEnd x) = pEnd x) (hm : ¬(j : Int) < most) : Runs Try.prog 0 (loopN Try.prog 24 0) (St.as (I24 s most j) 32) (.normal) (St.as (I24 s most (j+1)) 32) := by
  refine round_wp (p := condP (decide ((↑j : Int) < (↑s.p.length : Int))) (((0 : Int) ≤ (↑j : Int)) ∧ (((List.map ptD s.p)[(↑j : Int).toNat]? = some (D.agg [D.int IntKind.i64 x.a, D.str x.d])) ∧ ((D.bool (decide ((↑(List.map ivD (List.take most.toNat (List.map ivP (List.take j s.p)))).length : Int) < most)) = D.bool false) ∧ ((AV.d (D.int IntKind.i64 most) = AV.d (D.int IntKind.i64 most)) ∧ ((AV.ptr (0 : Nat) (0 : Nat) = AV.ptr (0 : Nat) (0 : Nat)) ∧ ((AV.own (1 : Nat) (2 : Nat) = AV.own (1 : Nat) (2 : Nat)) ∧ ((AV.d (D.sl (List.map ptD s.p)) = AV.d (D.sl (List.map ptD s.p))) ∧ ((AV.d (D.int IntKind.i64 (↑s.p.length : Int)) = AV.d (D.int IntKind.i64 (↑s.p.length : Int))) ∧ ((AV.d (D.int IntKind.i64 (IntKind.i64.wrap ((↑j : Int) + (1 : Int)))) = AV.d (D.int IntKind.i64 (↑(j + (1 : Nat)) : Int))) ∧ ((Ob.box [AV.d (D.int IntKind.i64 s.b), AV.d (D.str s.r), AV.d (D.sl (List.map ptD s.p))] = Ob.box [AV.d (D.int IntKind.i64 s.b), AV.d (D.str s.r), AV.d (D.sl (List.map ptD s.p))]) ∧ ((Ob.row (2 : Nat) (List.map ivD (List.take most.toNat (List.map ivP (List.take j s.p)))) = Ob.row (2 : Nat) (List.map ivD (List.take most.toNat (List.map ivP (List.take (j + (1 : Nat)) s.p))))) ∧ (True)))))))))))) (False)) (h := {els := [(12, .el (ptD x))], H := [(7, [(3, .val (.bool false))])]}) (subs := []) (ws := []) (ρ := []) (by kernel_rfl) ?_
  have hj := get_lt hn
  have hp := hb.p
  have hi := inc_i64 (j := j) (by omega)
  have k1 := end33 x hw
  have hl1 : ((s.p.take j).map ivP).length = j := by simp; omega
  rw [hi, ivp_take hn]
  simp only [List.length_map, List.length_take, hl1]
  refine condP_t (by rw [decide_eq_true_eq]; omega) ?_
  have e2 : ((s.p.take j).map ivP ++ [ivP x]).take most.toNat = ((s.p.take j).map ivP).take most.toNat := List.take_append_of_le_length (by rw [hl1]; omega)
  rw [e2]
  repeat' (first | with_reducible exact True.intro | with_reducible refine And.intro ?_ ?_ | with_reducible refine condP_dec (fun _ => ?_) (fun _ => ?_) | with_reducible refine condP_eq (fun _ => ?_) (fun _ => ?_) | with_reducible refine condP_ne (fun _ => ?_) (fun _ => ?_) | with_reducible refine condP_not (condP_dec (fun _ => ?_) (fun _ => ?_)) | with_reducible refine condP_not (condP_eq (fun _ => ?_) (fun _ => ?_)) | with_reducible refine condP_not (condP_intro (fun _ => ?_) (fun _ => ?_)) | with_reducible refine condP_intro (fun _ => ?_) (fun _ => ?_))
  all_goals first | exact k1 | exact el_map hn rfl | rfl | omega | exact dno (by omega) | skip

set_option maxRecDepth 100000 in
set_option maxHeartbeats 1000000 in
theorem q24 (s : Rq) (most : Int) : Runs Try.prog 0 (loopN Try.prog 24 0) (St.as (I24 s most s.p.length) 32) (.exit 0) (St.as (I24 s most s.p.length) 32) := by
  refine round_wp (p := condP (decide ((↑s.p.length : Int) < (↑s.p.length : Int))) (False) ((AV.d (D.int IntKind.i64 most) = AV.d (D.int IntKind.i64 most)) ∧ ((AV.ptr (0 : Nat) (0 : Nat) = AV.ptr (0 : Nat) (0 : Nat)) ∧ ((AV.own (1 : Nat) (2 : Nat) = AV.own (1 : Nat) (2 : Nat)) ∧ ((AV.d (D.sl (List.map ptD s.p)) = AV.d (D.sl (List.map ptD s.p))) ∧ ((AV.d (D.int IntKind.i64 (↑s.p.length : Int)) = AV.d (D.int IntKind.i64 (↑s.p.length : Int))) ∧ ((AV.d (D.int IntKind.i64 (↑s.p.length : Int)) = AV.d (D.int IntKind.i64 (↑s.p.length : Int))) ∧ ((Ob.box [AV.d (D.int IntKind.i64 s.b), AV.d (D.str s.r), AV.d (D.sl (List.map ptD s.p))] = Ob.box [AV.d (D.int IntKind.i64 s.b), AV.d (D.str s.r), AV.d (D.sl (List.map ptD s.p))]) ∧ ((Ob.row (2 : Nat) (List.map ivD (List.take most.toNat (List.map ivP (List.take s.p.length s.p)))) = Ob.row (2 : Nat) (List.map ivD (List.take most.toNat (List.map ivP (List.take s.p.length s.p))))) ∧ (True)))))))))) (h := {}) (subs := []) (ws := []) (ρ := []) (by kernel_rfl) ?_
  repeat' (first | with_reducible exact True.intro | with_reducible refine And.intro ?_ ?_ | with_reducible refine condP_dec (fun _ => ?_) (fun _ => ?_) | with_reducible refine condP_eq (fun _ => ?_) (fun _ => ?_) | with_reducible refine condP_ne (fun _ => ?_) (fun _ => ?_) | with_reducible refine condP_not (condP_dec (fun _ => ?_) (fun _ => ?_)) | with_reducible refine condP_not (condP_eq (fun _ => ?_) (fun _ => ?_)) | with_reducible refine condP_not (condP_intro (fun _ => ?_) (fun _ => ?_)) | with_reducible refine condP_intro (fun _ => ?_) (fun _ => ?_))
  all_goals (try simp only [List.length_map, AV.d.injEq, D.int.injEq, D.bool.injEq, D.str.injEq, D.sl.injEq, true_and, and_true, decide_eq_true_eq, decide_eq_false_iff_not, decide_eq_decide])
  all_goals (try simp only [List.length_map] at *)
  all_goals first | rfl | omega

end Go.Proofs.Ytmnglolholdmaaa
