/-
laws 31: the document's cutting; sameness; handing over; few.
-/
import Derived.Test.YtoagghehabceaaaS4
set_option linter.unusedSimpArgs false
set_option linter.unusedVariables false
namespace Go.Proofs.Ytoagghehabceaaa
open Sx Go.RowKit

def lsC (x : Ls) : Ob := .box [.d (.sl (x.l.map pkD)), .d (.int .i64 x.s), .d (.int .i64 x.c)]
def lsZ : Ob := .box [.raw (.slice none 0 0), .d (.int .i64 0), .d (.int .i64 0)]
/-! ### Cut -/
def I18 (x : Ls) (k : Int) (no : List Pk) (j : Nat) : St := ⟨[(1, .d (.int .i64 k)), (2, .ptr 0 0), (4, .ptr 1 0), (6, .own 2 3), (7, .d (.int .i64 j))], [(0, lsC x), (1, lsZ), (2, .row 3 (no.map pkD))]⟩
set_option maxRecDepth 100000 in
set_option maxHeartbeats 1000000 in
theorem r18n (x : Ls) (hl : x.l.length < 1073741824) (j : Nat) (y : Pk) (hn : x.l[j]? = some y) (k : Int) (no : List Pk) (hno : no.length < 1073741824) (hx : onPath k y = false) : Runs Try.prog 0 (loopN Try.prog 18 0) (St.as (I18 x k no j) 46) (.normal) (St.as (I18 x k (no ++ [y]) (j+1)) 46) := by
  refine round_wp (p := condP (decide ((↑j : Int) < (↑(List.map pkD x.l).length : Int))) (((0 : Int) ≤ (↑j : Int)) ∧ (((List.map pkD x.l)[(↑j : Int).toNat]? = some (D.agg [D.int IntKind.i64 y.p, D.int IntKind.i64 y.t, D.str y.d])) ∧ ((D.bool (y.p != k) = D.bool true) ∧ (((0 : Int) ≤ (↑j : Int)) ∧ (((List.map pkD x.l)[(↑j : Int).toNat]? = some (D.agg [D.int IntKind.i64 y.p, D.int IntKind.i64 y.t, D.str y.d])) ∧ ((((List.map pkD no).length + [D.agg (List.take (3 : Nat) [D.int IntKind.i64 y.p, D.int IntKind.i64 y.t, D.str y.d])].length) * (32 : Nat) ≤ (140737488355328 : Nat)) ∧ ((∀ (e : D), e ∈ chunk (3 : Nat) (1 : Nat) [D.int IntKind.i64 y.p, D.int IntKind.i64 y.t, D.str y.d] → e.cells.length = (3 : Nat)) ∧ ((AV.d (D.int IntKind.i64 k) = AV.d (D.int IntKind.i64 k)) ∧ ((AV.ptr (0 : Nat) (0 : Nat) = AV.ptr (0 : Nat) (0 : Nat)) ∧ ((AV.ptr (1 : Nat) (0 : Nat) = AV.ptr (1 : Nat) (0 : Nat)) ∧ ((AV.own (1280 : Nat) (3 : Nat) = AV.own (1280 : Nat) (3 : Nat)) ∧ ((AV.d (D.int IntKind.i64 (IntKind.i64.wrap ((↑j : Int) + (1 : Int)))) = AV.d (D.int IntKind.i64 (↑(j + (1 : Nat)) : Int))) ∧ ((Ob.box [AV.d (D.sl (List.map pkD x.l)), AV.d (D.int IntKind.i64 x.s), AV.d (D.int IntKind.i64 x.c)] = Ob.box [AV.d (D.sl (List.map pkD x.l)), AV.d (D.int IntKind.i64 x.s), AV.d (D.int IntKind.i64 x.c)]) ∧ ((Ob.box [AV.raw (Value.slice none (0 : Nat) (0 : Nat)), AV.d (D.int IntKind.i64 (0 : Int)), AV.d (D.int IntKind.i64 (0 : Int))] = Ob.box [AV.raw (Value.slice none (0 : Nat) (0 : Nat)), AV.d (D.int IntKind.i64 (0 : Int)), AV.d (D.int IntKind.i64 (0 : Int))]) ∧ ((Ob.row (3 : Nat) (List.map pkD no ++ [D.agg (List.take (3 : Nat) [D.int IntKind.i64 y.p, D.int IntKind.i64 y.t, D.str y.d])]) = Ob.row (3 : Nat) (List.map pkD (no ++ [y]))) ∧ (True)))))))))))))))) (False)) (h := {els := [(21, .el (pkD y)), (30, .el (pkD y))], H := [(7, [(7, .val (.bool true))])]}) (subs := []) (ws := []) (ρ := []) (by kernel_rfl) ?_
  have hj := get_lt hn
  have hx' := hx
  rw [inc_i64 (by omega)]
  try rw [List.map_append]
  refine condP_t (by rw [decide_eq_true_eq, List.length_map]; omega) ?_
  repeat' (first | with_reducible exact True.intro | with_reducible refine And.intro ?_ ?_ | with_reducible refine condP_dec (fun _ => ?_) (fun _ => ?_) | with_reducible refine condP_eq (fun _ => ?_) (fun _ => ?_) | with_reducible refine condP_ne (fun _ => ?_) (fun _ => ?_) | with_reducible refine condP_not (condP_dec (fun _ => ?_) (fun _ => ?_)) | with_reducible refine condP_not (condP_eq (fun _ => ?_) (fun _ => ?_)) | with_reducible refine condP_not (condP_intro (fun _ => ?_) (fun _ => ?_)) | with_reducible refine condP_intro (fun _ => ?_) (fun _ => ?_))
  all_goals first | exact el_map hn rfl | rfl | omega | (simp; omega) | (simp [chunk, pkD, D.cells]; done) | (exfalso; simp_all [onPath, onWay]; done) | (simp_all [onPath, onWay]; done) | skip

set_option maxRecDepth 100000 in
set_option maxHeartbeats 1000000 in
theorem r18y (x : Ls) (hl : x.l.length < 1073741824) (j : Nat) (y : Pk) (hn : x.l[j]? = some y) (k : Int) (no : List Pk) (hno : no.length < 1073741824) (hx : onPath k y = true) : Runs Try.prog 0 (loopN Try.prog 18 0) (St.as (I18 x k no j) 46) (.normal) (St.as (I18 x k no (j+1)) 46) := by
  refine round_wp (p := condP (decide ((↑j : Int) < (↑(List.map pkD x.l).length : Int))) (((0 : Int) ≤ (↑j : Int)) ∧ (((List.map pkD x.l)[(↑j : Int).toNat]? = some (D.agg [D.int IntKind.i64 y.p, D.int IntKind.i64 y.t, D.str y.d])) ∧ ((D.bool (y.p != k) = D.bool false) ∧ ((AV.d (D.int IntKind.i64 k) = AV.d (D.int IntKind.i64 k)) ∧ ((AV.ptr (0 : Nat) (0 : Nat) = AV.ptr (0 : Nat) (0 : Nat)) ∧ ((AV.ptr (1 : Nat) (0 : Nat) = AV.ptr (1 : Nat) (0 : Nat)) ∧ ((AV.own (2 : Nat) (3 : Nat) = AV.own (2 : Nat) (3 : Nat)) ∧ ((AV.d (D.int IntKind.i64 (IntKind.i64.wrap ((↑j : Int) + (1 : Int)))) = AV.d (D.int IntKind.i64 (↑(j + (1 : Nat)) : Int))) ∧ ((Ob.box [AV.d (D.sl (List.map pkD x.l)), AV.d (D.int IntKind.i64 x.s), AV.d (D.int IntKind.i64 x.c)] = Ob.box [AV.d (D.sl (List.map pkD x.l)), AV.d (D.int IntKind.i64 x.s), AV.d (D.int IntKind.i64 x.c)]) ∧ ((Ob.box [AV.raw (Value.slice none (0 : Nat) (0 : Nat)), AV.d (D.int IntKind.i64 (0 : Int)), AV.d (D.int IntKind.i64 (0 : Int))] = Ob.box [AV.raw (Value.slice none (0 : Nat) (0 : Nat)), AV.d (D.int IntKind.i64 (0 : Int)), AV.d (D.int IntKind.i64 (0 : Int))]) ∧ ((Ob.row (3 : Nat) (List.map pkD no) = Ob.row (3 : Nat) (List.map pkD no)) ∧ (True)))))))))))) (False)) (h := {els := [(21, .el (pkD y)), (30, .el (pkD y))], H := [(7, [(7, .val (.bool false))])]}) (subs := []) (ws := []) (ρ := []) (by kernel_rfl) ?_
  have hj := get_lt hn
  have hx' := hx
  rw [inc_i64 (by omega)]
  try rw [List.map_append]
  refine condP_t (by rw [decide_eq_true_eq, List.length_map]; omega) ?_
  repeat' (first | with_reducible exact True.intro | with_reducible refine And.intro ?_ ?_ | with_reducible refine condP_dec (fun _ => ?_) (fun _ => ?_) | with_reducible refine condP_eq (fun _ => ?_) (fun _ => ?_) | with_reducible refine condP_ne (fun _ => ?_) (fun _ => ?_) | with_reducible refine condP_not (condP_dec (fun _ => ?_) (fun _ => ?_)) | with_reducible refine condP_not (condP_eq (fun _ => ?_) (fun _ => ?_)) | with_reducible refine condP_not (condP_intro (fun _ => ?_) (fun _ => ?_)) | with_reducible refine condP_intro (fun _ => ?_) (fun _ => ?_))
  all_goals first | exact el_map hn rfl | rfl | omega | (simp; omega) | (simp [chunk, pkD, D.cells]; done) | (exfalso; simp_all [onPath, onWay]; done) | (simp_all [onPath, onWay]; done) | skip

set_option maxRecDepth 100000 in
set_option maxHeartbeats 1000000 in
theorem q18 (x : Ls) (k : Int) (no : List Pk) : Runs Try.prog 0 (loopN Try.prog 18 0) (St.as (I18 x k no x.l.length) 46) (.exit 0) (St.as (I18 x k no x.l.length) 46) := by
  refine round_wp (p := condP (decide ((↑x.l.length : Int) < (↑(List.map pkD x.l).length : Int))) (False) ((AV.d (D.int IntKind.i64 k) = AV.d (D.int IntKind.i64 k)) ∧ ((AV.ptr (0 : Nat) (0 : Nat) = AV.ptr (0 : Nat) (0 : Nat)) ∧ ((AV.ptr (1 : Nat) (0 : Nat) = AV.ptr (1 : Nat) (0 : Nat)) ∧ ((AV.own (2 : Nat) (3 : Nat) = AV.own (2 : Nat) (3 : Nat)) ∧ ((AV.d (D.int IntKind.i64 (↑x.l.length : Int)) = AV.d (D.int IntKind.i64 (↑x.l.length : Int))) ∧ ((Ob.box [AV.d (D.sl (List.map pkD x.l)), AV.d (D.int IntKind.i64 x.s), AV.d (D.int IntKind.i64 x.c)] = Ob.box [AV.d (D.sl (List.map pkD x.l)), AV.d (D.int IntKind.i64 x.s), AV.d (D.int IntKind.i64 x.c)]) ∧ ((Ob.box [AV.raw (Value.slice none (0 : Nat) (0 : Nat)), AV.d (D.int IntKind.i64 (0 : Int)), AV.d (D.int IntKind.i64 (0 : Int))] = Ob.box [AV.raw (Value.slice none (0 : Nat) (0 : Nat)), AV.d (D.int IntKind.i64 (0 : Int)), AV.d (D.int IntKind.i64 (0 : Int))]) ∧ ((Ob.row (3 : Nat) (List.map pkD no) = Ob.row (3 : Nat) (List.map pkD no)) ∧ (True)))))))))) (h := {}) (subs := []) (ws := []) (ρ := []) (by kernel_rfl) ?_
  repeat' (first | with_reducible exact True.intro | with_reducible refine And.intro ?_ ?_ | with_reducible refine condP_dec (fun _ => ?_) (fun _ => ?_) | with_reducible refine condP_eq (fun _ => ?_) (fun _ => ?_) | with_reducible refine condP_ne (fun _ => ?_) (fun _ => ?_) | with_reducible refine condP_not (condP_dec (fun _ => ?_) (fun _ => ?_)) | with_reducible refine condP_not (condP_eq (fun _ => ?_) (fun _ => ?_)) | with_reducible refine condP_not (condP_intro (fun _ => ?_) (fun _ => ?_)) | with_reducible refine condP_intro (fun _ => ?_) (fun _ => ?_))
  all_goals (try simp only [List.length_map, AV.d.injEq, D.int.injEq, D.bool.injEq, D.str.injEq, D.sl.injEq, true_and, and_true, decide_eq_true_eq, decide_eq_false_iff_not, decide_eq_decide])
  all_goals (try simp only [List.length_map] at *)
  all_goals first | rfl | omega

theorem l18 (x : Ls) (hl : x.l.length < 1073741824) (k : Int) : Loops Try.prog 0 (loopN Try.prog 18 0) ((I18 x k [] 0).as 46) (.exit 0) ((I18 x k (x.l.filter (notB (onPath k))) x.l.length).as 46) := by
  have e := loops_n (P := Try.prog) (k := 0) (c := loopN Try.prog 18 0) (I := fun j => (I18 x k ((x.l.take j).filter (notB (onPath k))) j).as 46) (e := .exit 0) (by simp) x.l.length 0 (by omega) (fun j _ hj => by
    have g := get_of hj
    have b2 := fil_len x.l (notB (onPath k)) j
    rw [filter_snoc g]
    cases hx : onPath k x.l[j]
    · have : notB (onPath k) x.l[j] = true := by unfold notB; rw [hx]; rfl
      rw [this, if_pos rfl]
      exact r18n x hl j _ g k _ (by omega) hx
    · have : notB (onPath k) x.l[j] = false := by unfold notB; rw [hx]; rfl
      rw [this, if_neg (by simp), List.append_nil]
      exact r18y x hl j _ g k _ (by omega) hx) (q18 x k _)
  rw [List.take_length] at e
  exact e
theorem parts_len (l : List Pk) (f : Pk → Bool) : (l.filter f).length + (l.filter (notB f)).length = l.length := by
  induction l with
  | nil => rfl
  | cons x r ih =>
    have hn : notB f x = !f x := rfl
    rw [List.filter_cons, List.filter_cons, hn]
    cases f x <;> simp <;> omega
set_option maxRecDepth 100000 in
set_option maxHeartbeats 1000000 in
theorem cut18y (x : Ls) (k : Int) (hc : lChk x = 0) (ys no : List Pk) (hp : ys.length + no.length = x.l.length) (hL : Loops Try.prog 0 (loopN Try.prog 18 0) ((I18 x k [] 0).as 46) (.exit 0) ((I18 x k no x.l.length).as 46)) : FnOK Try.prog 18 ([.d (lsD x), .d (.int .i64 k)]) ([]) (.tup [.d (lsD ⟨no, x.s, x.c⟩), .d (.int .i64 ys.length)]) ([]) := by
  refine fnOK_wp (p := (FnOK Try.prog (26 : Nat) [AV.d (D.agg [D.sl (List.map pkD x.l), D.int IntKind.i64 x.s, D.int IntKind.i64 x.c])] [] (AV.d (D.int IntKind.i64 (0 : Int))) []) ∧ ((AV.d (D.int IntKind.i64 k) = AV.d (D.int IntKind.i64 k)) ∧ ((AV.ptr (1016 : Nat) (0 : Nat) = AV.ptr (1016 : Nat) (0 : Nat)) ∧ ((AV.ptr (1032 : Nat) (0 : Nat) = AV.ptr (1032 : Nat) (0 : Nat)) ∧ ((AV.own (902 : Nat) (3 : Nat) = AV.own (902 : Nat) (3 : Nat)) ∧ ((AV.d (D.int IntKind.i64 (0 : Int)) = AV.d (D.int IntKind.i64 (0 : Int))) ∧ ((Ob.box [AV.d (D.sl (List.map pkD x.l)), AV.d (D.int IntKind.i64 x.s), AV.d (D.int IntKind.i64 x.c)] = Ob.box [AV.d (D.sl (List.map pkD x.l)), AV.d (D.int IntKind.i64 x.s), AV.d (D.int IntKind.i64 x.c)]) ∧ ((Ob.box [AV.raw (Value.slice none (0 : Nat) (0 : Nat)), AV.d (D.int IntKind.i64 (0 : Int)), AV.d (D.int IntKind.i64 (0 : Int))] = Ob.box [AV.raw (Value.slice none (0 : Nat) (0 : Nat)), AV.d (D.int IntKind.i64 (0 : Int)), AV.d (D.int IntKind.i64 (0 : Int))]) ∧ ((Ob.row (3 : Nat) [] = Ob.row (3 : Nat) []) ∧ ((LoopsS Try.prog (0 : Nat) (loopN Try.prog (18 : Nat) (0 : Nat)) (I18 x k [] (0 : Nat)) (Exit.exit (0 : Nat)) (I18 x k no x.l.length) (46 : Nat)) ∧ ((AV.tup [AV.d (D.agg [D.sl (List.map pkD no), D.int IntKind.i64 x.s, D.int IntKind.i64 x.c]), AV.d (D.int IntKind.i64 (IntKind.i64.wrap ((↑(List.map pkD x.l).length : Int) - (↑(List.map pkD no).length : Int))))] = AV.tup [AV.d (D.agg [D.sl (List.map pkD (Ls.mk no x.s x.c).l), D.int IntKind.i64 (Ls.mk no x.s x.c).s, D.int IntKind.i64 (Ls.mk no x.s x.c).c]), AV.d (D.int IntKind.i64 (↑ys.length : Int))]) ∧ (True)))))))))))) (h := {G := [(26, fun _ => some (.d (.int .i64 0), []))]}) (subs := [⟨[], [], I18 x k [] 0, .exit 0, I18 x k no x.l.length⟩]) (ws := []) (ρ := []) (by kernel_rfl) ?_
  obtain ⟨c1, -, c3, c4, c5, c6⟩ := chk_zero.1 hc
  have k1 := chk26 x (by omega)
  rw [hc] at k1
  have hw : IntKind.i64.wrap ((x.l.length : Int) - (no.length : Int)) = (ys.length : Int) := by rw [IntKind.wrap_i64]; omega
  simp only [List.length_map, hw]
  repeat' (first | with_reducible exact True.intro | with_reducible refine And.intro ?_ ?_ | with_reducible refine condP_dec (fun _ => ?_) (fun _ => ?_) | with_reducible refine condP_eq (fun _ => ?_) (fun _ => ?_) | with_reducible refine condP_ne (fun _ => ?_) (fun _ => ?_) | with_reducible refine condP_not (condP_dec (fun _ => ?_) (fun _ => ?_)) | with_reducible refine condP_not (condP_eq (fun _ => ?_) (fun _ => ?_)) | with_reducible refine condP_not (condP_intro (fun _ => ?_) (fun _ => ?_)) | with_reducible refine condP_intro (fun _ => ?_) (fun _ => ?_))
  all_goals first | exact k1 | exact hL | rfl | skip

set_option maxRecDepth 100000 in
set_option maxHeartbeats 1000000 in
theorem cut18n (x : Ls) (hl : x.l.length < 1073741824) (k : Int) (hc : lChk x ≠ 0) : FnOK Try.prog 18 ([.d (lsD x), .d (.int .i64 k)]) ([]) (.tup [.d (lsD x), .d (.int .i64 0)]) ([]) := by
  refine fnOK_wp (p := (FnOK Try.prog (26 : Nat) [AV.d (D.agg [D.sl (List.map pkD x.l), D.int IntKind.i64 x.s, D.int IntKind.i64 x.c])] [] (AV.d (D.int IntKind.i64 (lChk x))) []) ∧ ((D.bool (lChk x != (0 : Int)) = D.bool true) ∧ ((AV.tup [AV.d (D.agg [D.sl (List.map pkD x.l), D.int IntKind.i64 x.s, D.int IntKind.i64 x.c]), AV.d (D.int IntKind.i64 (0 : Int))] = AV.tup [AV.d (D.agg [D.sl (List.map pkD x.l), D.int IntKind.i64 x.s, D.int IntKind.i64 x.c]), AV.d (D.int IntKind.i64 (0 : Int))]) ∧ (True)))) (h := {G := [(26, gChk25 x)], H := [(1, [(2, .val (.bool true))])]}) (subs := [⟨[], [], I18 x k [] 0, .exit 0, I18 x k [] x.l.length⟩]) (ws := []) (ρ := []) (by kernel_rfl) ?_
  have k1 := chk26 x hl
  repeat' (first | with_reducible exact True.intro | with_reducible refine And.intro ?_ ?_ | with_reducible refine condP_dec (fun _ => ?_) (fun _ => ?_) | with_reducible refine condP_eq (fun _ => ?_) (fun _ => ?_) | with_reducible refine condP_ne (fun _ => ?_) (fun _ => ?_) | with_reducible refine condP_not (condP_dec (fun _ => ?_) (fun _ => ?_)) | with_reducible refine condP_not (condP_eq (fun _ => ?_) (fun _ => ?_)) | with_reducible refine condP_not (condP_intro (fun _ => ?_) (fun _ => ?_)) | with_reducible refine condP_intro (fun _ => ?_) (fun _ => ?_))
  all_goals first | exact k1 | rfl | (refine congrArg D.bool ?_; simp; exact hc) | skip

theorem cut18 (x : Ls) (hl : x.l.length < 1073741824) (k : Int) : FnOK Try.prog 18 [.d (lsD x), .d (.int .i64 k)] [] (.tup [.d (lsD (lCut x k)), .d (.int .i64 (lCutN x k))]) [] := by
  unfold lCut lCutN
  by_cases h : lChk x = 0
  · rw [if_pos h, if_pos h]; exact cut18y x k h _ _ (parts_len _ _) (l18 x hl k)
  · rw [if_neg h, if_neg h]; exact cut18n x hl k h
/-! ### All -/
def I20 (x : Ls) (k t : Int) (no ys : List Pk) (j : Nat) : St := ⟨[(1, .d (.int .i64 k)), (2, .d (.int .i64 t)), (3, .ptr 0 0), (6, .ptr 1 0), (8, .own 2 3), (9, .own 3 3), (10, .d (.int .i64 j))], [(0, lsC x), (1, lsZ), (2, .row 3 (no.map pkD)), (3, .row 3 (ys.map pkD))]⟩
set_option maxRecDepth 100000 in
set_option maxHeartbeats 1000000 in
theorem r20y (x : Ls) (hl : x.l.length < 1073741824) (j : Nat) (y : Pk) (hn : x.l[j]? = some y) (k t : Int) (no ys : List Pk) (hno : no.length < 1073741824) (hys : ys.length < 1073741824) (hx : onWay k t y = true) : Runs Try.prog 0 (loopN Try.prog 20 0) (St.as (I20 x k t no ys j) 67) (.normal) (St.as (I20 x k t no (ys ++ [y]) (j+1)) 67) := by
  refine round_wp (p := condP (decide ((↑j : Int) < (↑(List.map pkD x.l).length : Int))) (condP (y.p == k) (((0 : Int) ≤ (↑j : Int)) ∧ (((List.map pkD x.l)[(↑j : Int).toNat]? = some (D.agg [D.int IntKind.i64 y.p, D.int IntKind.i64 y.t, D.str y.d])) ∧ ((D.bool (y.p == k) = D.bool true) ∧ (((0 : Int) ≤ (↑j : Int)) ∧ (((List.map pkD x.l)[(↑j : Int).toNat]? = some (D.agg [D.int IntKind.i64 y.p, D.int IntKind.i64 y.t, D.str y.d])) ∧ (condP (y.t == t) (((0 : Int) ≤ (↑j : Int)) ∧ (((List.map pkD x.l)[(↑j : Int).toNat]? = some (D.agg [D.int IntKind.i64 y.p, D.int IntKind.i64 y.t, D.str y.d])) ∧ ((((List.map pkD ys).length + [D.agg (List.take (3 : Nat) [D.int IntKind.i64 y.p, D.int IntKind.i64 y.t, D.str y.d])].length) * (32 : Nat) ≤ (140737488355328 : Nat)) ∧ ((∀ (e : D), e ∈ chunk (3 : Nat) (1 : Nat) [D.int IntKind.i64 y.p, D.int IntKind.i64 y.t, D.str y.d] → e.cells.length = (3 : Nat)) ∧ ((AV.d (D.int IntKind.i64 k) = AV.d (D.int IntKind.i64 k)) ∧ ((AV.d (D.int IntKind.i64 t) = AV.d (D.int IntKind.i64 t)) ∧ ((AV.ptr (0 : Nat) (0 : Nat) = AV.ptr (0 : Nat) (0 : Nat)) ∧ ((AV.ptr (1 : Nat) (0 : Nat) = AV.ptr (1 : Nat) (0 : Nat)) ∧ ((AV.own (2 : Nat) (3 : Nat) = AV.own (2 : Nat) (3 : Nat)) ∧ ((AV.own (1376 : Nat) (3 : Nat) = AV.own (1376 : Nat) (3 : Nat)) ∧ ((AV.d (D.int IntKind.i64 (IntKind.i64.wrap ((↑j : Int) + (1 : Int)))) = AV.d (D.int IntKind.i64 (↑(j + (1 : Nat)) : Int))) ∧ ((Ob.box [AV.d (D.sl (List.map pkD x.l)), AV.d (D.int IntKind.i64 x.s), AV.d (D.int IntKind.i64 x.c)] = Ob.box [AV.d (D.sl (List.map pkD x.l)), AV.d (D.int IntKind.i64 x.s), AV.d (D.int IntKind.i64 x.c)]) ∧ ((Ob.box [AV.raw (Value.slice none (0 : Nat) (0 : Nat)), AV.d (D.int IntKind.i64 (0 : Int)), AV.d (D.int IntKind.i64 (0 : Int))] = Ob.box [AV.raw (Value.slice none (0 : Nat) (0 : Nat)), AV.d (D.int IntKind.i64 (0 : Int)), AV.d (D.int IntKind.i64 (0 : Int))]) ∧ ((Ob.row (3 : Nat) (List.map pkD no) = Ob.row (3 : Nat) (List.map pkD no)) ∧ ((Ob.row (3 : Nat) (List.map pkD ys ++ [D.agg (List.take (3 : Nat) [D.int IntKind.i64 y.p, D.int IntKind.i64 y.t, D.str y.d])]) = Ob.row (3 : Nat) (List.map pkD (ys ++ [y]))) ∧ (True)))))))))))))))) (((0 : Int) ≤ (↑j : Int)) ∧ (((List.map pkD x.l)[(↑j : Int).toNat]? = some (D.agg [D.int IntKind.i64 y.p, D.int IntKind.i64 y.t, D.str y.d])) ∧ ((((List.map pkD no).length + [D.agg (List.take (3 : Nat) [D.int IntKind.i64 y.p, D.int IntKind.i64 y.t, D.str y.d])].length) * (32 : Nat) ≤ (140737488355328 : Nat)) ∧ ((∀ (e : D), e ∈ chunk (3 : Nat) (1 : Nat) [D.int IntKind.i64 y.p, D.int IntKind.i64 y.t, D.str y.d] → e.cells.length = (3 : Nat)) ∧ ((AV.d (D.int IntKind.i64 k) = AV.d (D.int IntKind.i64 k)) ∧ ((AV.d (D.int IntKind.i64 t) = AV.d (D.int IntKind.i64 t)) ∧ ((AV.ptr (0 : Nat) (0 : Nat) = AV.ptr (0 : Nat) (0 : Nat)) ∧ ((AV.ptr (1 : Nat) (0 : Nat) = AV.ptr (1 : Nat) (0 : Nat)) ∧ ((AV.own (1440 : Nat) (3 : Nat) = AV.own (1440 : Nat) (3 : Nat)) ∧ ((AV.own (3 : Nat) (3 : Nat) = AV.own (3 : Nat) (3 : Nat)) ∧ ((AV.d (D.int IntKind.i64 (IntKind.i64.wrap ((↑j : Int) + (1 : Int)))) = AV.d (D.int IntKind.i64 (↑(j + (1 : Nat)) : Int))) ∧ ((Ob.box [AV.d (D.sl (List.map pkD x.l)), AV.d (D.int IntKind.i64 x.s), AV.d (D.int IntKind.i64 x.c)] = Ob.box [AV.d (D.sl (List.map pkD x.l)), AV.d (D.int IntKind.i64 x.s), AV.d (D.int IntKind.i64 x.c)]) ∧ ((Ob.box [AV.raw (Value.slice none (0 : Nat) (0 : Nat)), AV.d (D.int IntKind.i64 (0 : Int)), AV.d (D.int IntKind.i64 (0 : Int))] = Ob.box [AV.raw (Value.slice none (0 : Nat) (0 : Nat)), AV.d (D.int IntKind.i64 (0 : Int)), AV.d (D.int IntKind.i64 (0 : Int))]) ∧ ((Ob.row (3 : Nat) (List.map pkD no ++ [D.agg (List.take (3 : Nat) [D.int IntKind.i64 y.p, D.int IntKind.i64 y.t, D.str y.d])]) = Ob.row (3 : Nat) (List.map pkD no)) ∧ ((Ob.row (3 : Nat) (List.map pkD ys) = Ob.row (3 : Nat) (List.map pkD (ys ++ [y]))) ∧ (True)))))))))))))))))))))) (((0 : Int) ≤ (↑j : Int)) ∧ (((List.map pkD x.l)[(↑j : Int).toNat]? = some (D.agg [D.int IntKind.i64 y.p, D.int IntKind.i64 y.t, D.str y.d])) ∧ ((D.bool (y.p == k) = D.bool false) ∧ (((0 : Int) ≤ (↑j : Int)) ∧ (((List.map pkD x.l)[(↑j : Int).toNat]? = some (D.agg [D.int IntKind.i64 y.p, D.int IntKind.i64 y.t, D.str y.d])) ∧ ((((List.map pkD no).length + [D.agg (List.take (3 : Nat) [D.int IntKind.i64 y.p, D.int IntKind.i64 y.t, D.str y.d])].length) * (32 : Nat) ≤ (140737488355328 : Nat)) ∧ ((∀ (e : D), e ∈ chunk (3 : Nat) (1 : Nat) [D.int IntKind.i64 y.p, D.int IntKind.i64 y.t, D.str y.d] → e.cells.length = (3 : Nat)) ∧ ((AV.d (D.int IntKind.i64 k) = AV.d (D.int IntKind.i64 k)) ∧ ((AV.d (D.int IntKind.i64 t) = AV.d (D.int IntKind.i64 t)) ∧ ((AV.ptr (0 : Nat) (0 : Nat) = AV.ptr (0 : Nat) (0 : Nat)) ∧ ((AV.ptr (1 : Nat) (0 : Nat) = AV.ptr (1 : Nat) (0 : Nat)) ∧ ((AV.own (1440 : Nat) (3 : Nat) = AV.own (1440 : Nat) (3 : Nat)) ∧ ((AV.own (3 : Nat) (3 : Nat) = AV.own (3 : Nat) (3 : Nat)) ∧ ((AV.d (D.int IntKind.i64 (IntKind.i64.wrap ((↑j : Int) + (1 : Int)))) = AV.d (D.int IntKind.i64 (↑(j + (1 : Nat)) : Int))) ∧ ((Ob.box [AV.d (D.sl (List.map pkD x.l)), AV.d (D.int IntKind.i64 x.s), AV.d (D.int IntKind.i64 x.c)] = Ob.box [AV.d (D.sl (List.map pkD x.l)), AV.d (D.int IntKind.i64 x.s), AV.d (D.int IntKind.i64 x.c)]) ∧ ((Ob.box [AV.raw (Value.slice none (0 : Nat) (0 : Nat)), AV.d (D.int IntKind.i64 (0 : Int)), AV.d (D.int IntKind.i64 (0 : Int))] = Ob.box [AV.raw (Value.slice none (0 : Nat) (0 : Nat)), AV.d (D.int IntKind.i64 (0 : Int)), AV.d (D.int IntKind.i64 (0 : Int))]) ∧ ((Ob.row (3 : Nat) (List.map pkD no ++ [D.agg (List.take (3 : Nat) [D.int IntKind.i64 y.p, D.int IntKind.i64 y.t, D.str y.d])]) = Ob.row (3 : Nat) (List.map pkD no)) ∧ ((Ob.row (3 : Nat) (List.map pkD ys) = Ob.row (3 : Nat) (List.map pkD (ys ++ [y]))) ∧ (True)))))))))))))))))))) (False)) (h := {els := [(23, .el (pkD y)), (32, .el (pkD y)), (42, .el (pkD y)), (50, .el (pkD y))]}) (subs := []) (ws := []) (ρ := []) (by kernel_rfl) ?_
  have hj := get_lt hn
  have hx' := hx
  rw [inc_i64 (by omega)]
  try rw [List.map_append]
  refine condP_t (by rw [decide_eq_true_eq, List.length_map]; omega) ?_
  repeat' (first | with_reducible exact True.intro | with_reducible refine And.intro ?_ ?_ | with_reducible refine condP_dec (fun _ => ?_) (fun _ => ?_) | with_reducible refine condP_eq (fun _ => ?_) (fun _ => ?_) | with_reducible refine condP_ne (fun _ => ?_) (fun _ => ?_) | with_reducible refine condP_not (condP_dec (fun _ => ?_) (fun _ => ?_)) | with_reducible refine condP_not (condP_eq (fun _ => ?_) (fun _ => ?_)) | with_reducible refine condP_not (condP_intro (fun _ => ?_) (fun _ => ?_)) | with_reducible refine condP_intro (fun _ => ?_) (fun _ => ?_))
  all_goals first | exact el_map hn rfl | rfl | omega | (simp; omega) | (simp [chunk, pkD, D.cells]; done) | (exfalso; simp_all [onPath, onWay]; done) | (simp_all [onPath, onWay]; done) | skip

set_option maxRecDepth 100000 in
set_option maxHeartbeats 1000000 in
theorem r20n (x : Ls) (hl : x.l.length < 1073741824) (j : Nat) (y : Pk) (hn : x.l[j]? = some y) (k t : Int) (no ys : List Pk) (hno : no.length < 1073741824) (hys : ys.length < 1073741824) (hx : onWay k t y = false) : Runs Try.prog 0 (loopN Try.prog 20 0) (St.as (I20 x k t no ys j) 67) (.normal) (St.as (I20 x k t (no ++ [y]) ys (j+1)) 67) := by
  refine round_wp (p := condP (decide ((↑j : Int) < (↑(List.map pkD x.l).length : Int))) (condP (y.p == k) (((0 : Int) ≤ (↑j : Int)) ∧ (((List.map pkD x.l)[(↑j : Int).toNat]? = some (D.agg [D.int IntKind.i64 y.p, D.int IntKind.i64 y.t, D.str y.d])) ∧ ((D.bool (y.p == k) = D.bool true) ∧ (((0 : Int) ≤ (↑j : Int)) ∧ (((List.map pkD x.l)[(↑j : Int).toNat]? = some (D.agg [D.int IntKind.i64 y.p, D.int IntKind.i64 y.t, D.str y.d])) ∧ (condP (y.t == t) (((0 : Int) ≤ (↑j : Int)) ∧ (((List.map pkD x.l)[(↑j : Int).toNat]? = some (D.agg [D.int IntKind.i64 y.p, D.int IntKind.i64 y.t, D.str y.d])) ∧ ((((List.map pkD ys).length + [D.agg (List.take (3 : Nat) [D.int IntKind.i64 y.p, D.int IntKind.i64 y.t, D.str y.d])].length) * (32 : Nat) ≤ (140737488355328 : Nat)) ∧ ((∀ (e : D), e ∈ chunk (3 : Nat) (1 : Nat) [D.int IntKind.i64 y.p, D.int IntKind.i64 y.t, D.str y.d] → e.cells.length = (3 : Nat)) ∧ ((AV.d (D.int IntKind.i64 k) = AV.d (D.int IntKind.i64 k)) ∧ ((AV.d (D.int IntKind.i64 t) = AV.d (D.int IntKind.i64 t)) ∧ ((AV.ptr (0 : Nat) (0 : Nat) = AV.ptr (0 : Nat) (0 : Nat)) ∧ ((AV.ptr (1 : Nat) (0 : Nat) = AV.ptr (1 : Nat) (0 : Nat)) ∧ ((AV.own (2 : Nat) (3 : Nat) = AV.own (2 : Nat) (3 : Nat)) ∧ ((AV.own (1376 : Nat) (3 : Nat) = AV.own (1376 : Nat) (3 : Nat)) ∧ ((AV.d (D.int IntKind.i64 (IntKind.i64.wrap ((↑j : Int) + (1 : Int)))) = AV.d (D.int IntKind.i64 (↑(j + (1 : Nat)) : Int))) ∧ ((Ob.box [AV.d (D.sl (List.map pkD x.l)), AV.d (D.int IntKind.i64 x.s), AV.d (D.int IntKind.i64 x.c)] = Ob.box [AV.d (D.sl (List.map pkD x.l)), AV.d (D.int IntKind.i64 x.s), AV.d (D.int IntKind.i64 x.c)]) ∧ ((Ob.box [AV.raw (Value.slice none (0 : Nat) (0 : Nat)), AV.d (D.int IntKind.i64 (0 : Int)), AV.d (D.int IntKind.i64 (0 : Int))] = Ob.box [AV.raw (Value.slice none (0 : Nat) (0 : Nat)), AV.d (D.int IntKind.i64 (0 : Int)), AV.d (D.int IntKind.i64 (0 : Int))]) ∧ ((Ob.row (3 : Nat) (List.map pkD no) = Ob.row (3 : Nat) (List.map pkD (no ++ [y]))) ∧ ((Ob.row (3 : Nat) (List.map pkD ys ++ [D.agg (List.take (3 : Nat) [D.int IntKind.i64 y.p, D.int IntKind.i64 y.t, D.str y.d])]) = Ob.row (3 : Nat) (List.map pkD ys)) ∧ (True)))))))))))))))) (((0 : Int) ≤ (↑j : Int)) ∧ (((List.map pkD x.l)[(↑j : Int).toNat]? = some (D.agg [D.int IntKind.i64 y.p, D.int IntKind.i64 y.t, D.str y.d])) ∧ ((((List.map pkD no).length + [D.agg (List.take (3 : Nat) [D.int IntKind.i64 y.p, D.int IntKind.i64 y.t, D.str y.d])].length) * (32 : Nat) ≤ (140737488355328 : Nat)) ∧ ((∀ (e : D), e ∈ chunk (3 : Nat) (1 : Nat) [D.int IntKind.i64 y.p, D.int IntKind.i64 y.t, D.str y.d] → e.cells.length = (3 : Nat)) ∧ ((AV.d (D.int IntKind.i64 k) = AV.d (D.int IntKind.i64 k)) ∧ ((AV.d (D.int IntKind.i64 t) = AV.d (D.int IntKind.i64 t)) ∧ ((AV.ptr (0 : Nat) (0 : Nat) = AV.ptr (0 : Nat) (0 : Nat)) ∧ ((AV.ptr (1 : Nat) (0 : Nat) = AV.ptr (1 : Nat) (0 : Nat)) ∧ ((AV.own (1440 : Nat) (3 : Nat) = AV.own (1440 : Nat) (3 : Nat)) ∧ ((AV.own (3 : Nat) (3 : Nat) = AV.own (3 : Nat) (3 : Nat)) ∧ ((AV.d (D.int IntKind.i64 (IntKind.i64.wrap ((↑j : Int) + (1 : Int)))) = AV.d (D.int IntKind.i64 (↑(j + (1 : Nat)) : Int))) ∧ ((Ob.box [AV.d (D.sl (List.map pkD x.l)), AV.d (D.int IntKind.i64 x.s), AV.d (D.int IntKind.i64 x.c)] = Ob.box [AV.d (D.sl (List.map pkD x.l)), AV.d (D.int IntKind.i64 x.s), AV.d (D.int IntKind.i64 x.c)]) ∧ ((Ob.box [AV.raw (Value.slice none (0 : Nat) (0 : Nat)), AV.d (D.int IntKind.i64 (0 : Int)), AV.d (D.int IntKind.i64 (0 : Int))] = Ob.box [AV.raw (Value.slice none (0 : Nat) (0 : Nat)), AV.d (D.int IntKind.i64 (0 : Int)), AV.d (D.int IntKind.i64 (0 : Int))]) ∧ ((Ob.row (3 : Nat) (List.map pkD no ++ [D.agg (List.take (3 : Nat) [D.int IntKind.i64 y.p, D.int IntKind.i64 y.t, D.str y.d])]) = Ob.row (3 : Nat) (List.map pkD (no ++ [y]))) ∧ ((Ob.row (3 : Nat) (List.map pkD ys) = Ob.row (3 : Nat) (List.map pkD ys)) ∧ (True)))))))))))))))))))))) (((0 : Int) ≤ (↑j : Int)) ∧ (((List.map pkD x.l)[(↑j : Int).toNat]? = some (D.agg [D.int IntKind.i64 y.p, D.int IntKind.i64 y.t, D.str y.d])) ∧ ((D.bool (y.p == k) = D.bool false) ∧ (((0 : Int) ≤ (↑j : Int)) ∧ (((List.map pkD x.l)[(↑j : Int).toNat]? = some (D.agg [D.int IntKind.i64 y.p, D.int IntKind.i64 y.t, D.str y.d])) ∧ ((((List.map pkD no).length + [D.agg (List.take (3 : Nat) [D.int IntKind.i64 y.p, D.int IntKind.i64 y.t, D.str y.d])].length) * (32 : Nat) ≤ (140737488355328 : Nat)) ∧ ((∀ (e : D), e ∈ chunk (3 : Nat) (1 : Nat) [D.int IntKind.i64 y.p, D.int IntKind.i64 y.t, D.str y.d] → e.cells.length = (3 : Nat)) ∧ ((AV.d (D.int IntKind.i64 k) = AV.d (D.int IntKind.i64 k)) ∧ ((AV.d (D.int IntKind.i64 t) = AV.d (D.int IntKind.i64 t)) ∧ ((AV.ptr (0 : Nat) (0 : Nat) = AV.ptr (0 : Nat) (0 : Nat)) ∧ ((AV.ptr (1 : Nat) (0 : Nat) = AV.ptr (1 : Nat) (0 : Nat)) ∧ ((AV.own (1440 : Nat) (3 : Nat) = AV.own (1440 : Nat) (3 : Nat)) ∧ ((AV.own (3 : Nat) (3 : Nat) = AV.own (3 : Nat) (3 : Nat)) ∧ ((AV.d (D.int IntKind.i64 (IntKind.i64.wrap ((↑j : Int) + (1 : Int)))) = AV.d (D.int IntKind.i64 (↑(j + (1 : Nat)) : Int))) ∧ ((Ob.box [AV.d (D.sl (List.map pkD x.l)), AV.d (D.int IntKind.i64 x.s), AV.d (D.int IntKind.i64 x.c)] = Ob.box [AV.d (D.sl (List.map pkD x.l)), AV.d (D.int IntKind.i64 x.s), AV.d (D.int IntKind.i64 x.c)]) ∧ ((Ob.box [AV.raw (Value.slice none (0 : Nat) (0 : Nat)), AV.d (D.int IntKind.i64 (0 : Int)), AV.d (D.int IntKind.i64 (0 : Int))] = Ob.box [AV.raw (Value.slice none (0 : Nat) (0 : Nat)), AV.d (D.int IntKind.i64 (0 : Int)), AV.d (D.int IntKind.i64 (0 : Int))]) ∧ ((Ob.row (3 : Nat) (List.map pkD no ++ [D.agg (List.take (3 : Nat) [D.int IntKind.i64 y.p, D.int IntKind.i64 y.t, D.str y.d])]) = Ob.row (3 : Nat) (List.map pkD (no ++ [y]))) ∧ ((Ob.row (3 : Nat) (List.map pkD ys) = Ob.row (3 : Nat) (List.map pkD ys)) ∧ (True)))))))))))))))))))) (False)) (h := {els := [(23, .el (pkD y)), (32, .el (pkD y)), (42, .el (pkD y)), (50, .el (pkD y))]}) (subs := []) (ws := []) (ρ := []) (by kernel_rfl) ?_
  have hj := get_lt hn
  have hx' := hx
  rw [inc_i64 (by omega)]
  try rw [List.map_append]
  refine condP_t (by rw [decide_eq_true_eq, List.length_map]; omega) ?_
  repeat' (first | with_reducible exact True.intro | with_reducible refine And.intro ?_ ?_ | with_reducible refine condP_dec (fun _ => ?_) (fun _ => ?_) | with_reducible refine condP_eq (fun _ => ?_) (fun _ => ?_) | with_reducible refine condP_ne (fun _ => ?_) (fun _ => ?_) | with_reducible refine condP_not (condP_dec (fun _ => ?_) (fun _ => ?_)) | with_reducible refine condP_not (condP_eq (fun _ => ?_) (fun _ => ?_)) | with_reducible refine condP_not (condP_intro (fun _ => ?_) (fun _ => ?_)) | with_reducible refine condP_intro (fun _ => ?_) (fun _ => ?_))
  all_goals first | exact el_map hn rfl | rfl | omega | (simp; omega) | (simp [chunk, pkD, D.cells]; done) | (exfalso; simp_all [onPath, onWay]; done) | (simp_all [onPath, onWay]; done) | skip

set_option maxRecDepth 100000 in
set_option maxHeartbeats 1000000 in
theorem q20 (x : Ls) (k t : Int) (no ys : List Pk) : Runs Try.prog 0 (loopN Try.prog 20 0) (St.as (I20 x k t no ys x.l.length) 67) (.exit 0) (St.as (I20 x k t no ys x.l.length) 67) := by
  refine round_wp (p := condP (decide ((↑x.l.length : Int) < (↑(List.map pkD x.l).length : Int))) (False) ((AV.d (D.int IntKind.i64 k) = AV.d (D.int IntKind.i64 k)) ∧ ((AV.d (D.int IntKind.i64 t) = AV.d (D.int IntKind.i64 t)) ∧ ((AV.ptr (0 : Nat) (0 : Nat) = AV.ptr (0 : Nat) (0 : Nat)) ∧ ((AV.ptr (1 : Nat) (0 : Nat) = AV.ptr (1 : Nat) (0 : Nat)) ∧ ((AV.own (2 : Nat) (3 : Nat) = AV.own (2 : Nat) (3 : Nat)) ∧ ((AV.own (3 : Nat) (3 : Nat) = AV.own (3 : Nat) (3 : Nat)) ∧ ((AV.d (D.int IntKind.i64 (↑x.l.length : Int)) = AV.d (D.int IntKind.i64 (↑x.l.length : Int))) ∧ ((Ob.box [AV.d (D.sl (List.map pkD x.l)), AV.d (D.int IntKind.i64 x.s), AV.d (D.int IntKind.i64 x.c)] = Ob.box [AV.d (D.sl (List.map pkD x.l)), AV.d (D.int IntKind.i64 x.s), AV.d (D.int IntKind.i64 x.c)]) ∧ ((Ob.box [AV.raw (Value.slice none (0 : Nat) (0 : Nat)), AV.d (D.int IntKind.i64 (0 : Int)), AV.d (D.int IntKind.i64 (0 : Int))] = Ob.box [AV.raw (Value.slice none (0 : Nat) (0 : Nat)), AV.d (D.int IntKind.i64 (0 : Int)), AV.d (D.int IntKind.i64 (0 : Int))]) ∧ ((Ob.row (3 : Nat) (List.map pkD no) = Ob.row (3 : Nat) (List.map pkD no)) ∧ ((Ob.row (3 : Nat) (List.map pkD ys) = Ob.row (3 : Nat) (List.map pkD ys)) ∧ (True))))))))))))) (h := {}) (subs := []) (ws := []) (ρ := []) (by kernel_rfl) ?_
  repeat' (first | with_reducible exact True.intro | with_reducible refine And.intro ?_ ?_ | with_reducible refine condP_dec (fun _ => ?_) (fun _ => ?_) | with_reducible refine condP_eq (fun _ => ?_) (fun _ => ?_) | with_reducible refine condP_ne (fun _ => ?_) (fun _ => ?_) | with_reducible refine condP_not (condP_dec (fun _ => ?_) (fun _ => ?_)) | with_reducible refine condP_not (condP_eq (fun _ => ?_) (fun _ => ?_)) | with_reducible refine condP_not (condP_intro (fun _ => ?_) (fun _ => ?_)) | with_reducible refine condP_intro (fun _ => ?_) (fun _ => ?_))
  all_goals (try simp only [List.length_map, AV.d.injEq, D.int.injEq, D.bool.injEq, D.str.injEq, D.sl.injEq, true_and, and_true, decide_eq_true_eq, decide_eq_false_iff_not, decide_eq_decide])
  all_goals (try simp only [List.length_map] at *)
  all_goals first | rfl | omega

theorem l20 (x : Ls) (hl : x.l.length < 1073741824) (k t : Int) : Loops Try.prog 0 (loopN Try.prog 20 0) ((I20 x k t [] [] 0).as 67) (.exit 0) ((I20 x k t (x.l.filter (notB (onWay k t))) (x.l.filter (onWay k t)) x.l.length).as 67) := by
  have e := loops_n (P := Try.prog) (k := 0) (c := loopN Try.prog 20 0) (I := fun j => (I20 x k t ((x.l.take j).filter (notB (onWay k t))) ((x.l.take j).filter (onWay k t)) j).as 67) (e := .exit 0) (by simp) x.l.length 0 (by omega) (fun j _ hj => by
    have g := get_of hj
    have b1 := fil_len x.l (onWay k t) j
    have b2 := fil_len x.l (notB (onWay k t)) j
    rw [filter_snoc g, filter_snoc g]
    cases hx : onWay k t x.l[j]
    · have : notB (onWay k t) x.l[j] = true := by unfold notB; rw [hx]; rfl
      rw [this, if_pos rfl, if_neg (by simp), List.append_nil]
      exact r20n x hl j _ g k t _ _ (by omega) (by omega) hx
    · have : notB (onWay k t) x.l[j] = false := by unfold notB; rw [hx]; rfl
      rw [this, if_pos rfl, if_neg (by simp), List.append_nil]
      exact r20y x hl j _ g k t _ _ (by omega) (by omega) hx) (q20 x k t _ _)
  rw [List.take_length] at e
  exact e
set_option maxRecDepth 100000 in
set_option maxHeartbeats 1000000 in
theorem all20y (x : Ls) (k t : Int) (hc : lChk x = 0) (ys no : List Pk) (hp : ys.length + no.length = x.l.length) (hL : Loops Try.prog 0 (loopN Try.prog 20 0) ((I20 x k t [] [] 0).as 67) (.exit 0) ((I20 x k t no ys x.l.length).as 67)) : FnOK Try.prog 20 ([.d (lsD x), .d (.int .i64 k), .d (.int .i64 t)]) ([]) (.tup [.d (lsD ⟨no, x.s, min (x.c + ys.length) 1099511627776⟩), .d (.sl (ys.map pkD))]) ([]) := by
  refine fnOK_wp (p := (FnOK Try.prog (26 : Nat) [AV.d (D.agg [D.sl (List.map pkD x.l), D.int IntKind.i64 x.s, D.int IntKind.i64 x.c])] [] (AV.d (D.int IntKind.i64 (0 : Int))) []) ∧ ((AV.d (D.int IntKind.i64 k) = AV.d (D.int IntKind.i64 k)) ∧ ((AV.d (D.int IntKind.i64 t) = AV.d (D.int IntKind.i64 t)) ∧ ((AV.ptr (1024 : Nat) (0 : Nat) = AV.ptr (1024 : Nat) (0 : Nat)) ∧ ((AV.ptr (1048 : Nat) (0 : Nat) = AV.ptr (1048 : Nat) (0 : Nat)) ∧ ((AV.own (902 : Nat) (3 : Nat) = AV.own (902 : Nat) (3 : Nat)) ∧ ((AV.own (903 : Nat) (3 : Nat) = AV.own (903 : Nat) (3 : Nat)) ∧ ((AV.d (D.int IntKind.i64 (0 : Int)) = AV.d (D.int IntKind.i64 (0 : Int))) ∧ ((Ob.box [AV.d (D.sl (List.map pkD x.l)), AV.d (D.int IntKind.i64 x.s), AV.d (D.int IntKind.i64 x.c)] = Ob.box [AV.d (D.sl (List.map pkD x.l)), AV.d (D.int IntKind.i64 x.s), AV.d (D.int IntKind.i64 x.c)]) ∧ ((Ob.box [AV.raw (Value.slice none (0 : Nat) (0 : Nat)), AV.d (D.int IntKind.i64 (0 : Int)), AV.d (D.int IntKind.i64 (0 : Int))] = Ob.box [AV.raw (Value.slice none (0 : Nat) (0 : Nat)), AV.d (D.int IntKind.i64 (0 : Int)), AV.d (D.int IntKind.i64 (0 : Int))]) ∧ ((Ob.row (3 : Nat) [] = Ob.row (3 : Nat) []) ∧ ((Ob.row (3 : Nat) [] = Ob.row (3 : Nat) []) ∧ ((LoopsS Try.prog (0 : Nat) (loopN Try.prog (20 : Nat) (0 : Nat)) (I20 x k t [] [] (0 : Nat)) (Exit.exit (0 : Nat)) (I20 x k t no ys x.l.length) (67 : Nat)) ∧ ((AV.tup [AV.d (D.agg [D.sl (List.map pkD no), D.int IntKind.i64 x.s, D.int IntKind.i64 (min (1099511627776 : Int) (IntKind.i64.wrap (x.c + (↑(List.map pkD ys).length : Int))))]), AV.d (D.sl (List.map pkD ys))] = AV.tup [AV.d (D.agg [D.sl (List.map pkD (Ls.mk no x.s (min (x.c + (↑ys.length : Int)) (1099511627776 : Int))).l), D.int IntKind.i64 (Ls.mk no x.s (min (x.c + (↑ys.length : Int)) (1099511627776 : Int))).s, D.int IntKind.i64 (Ls.mk no x.s (min (x.c + (↑ys.length : Int)) (1099511627776 : Int))).c]), AV.d (D.sl (List.map pkD ys))]) ∧ (True))))))))))))))) (h := {G := [(26, fun _ => some (.d (.int .i64 0), []))]}) (subs := [⟨[], [], I20 x k t [] [] 0, .exit 0, I20 x k t no ys x.l.length⟩]) (ws := []) (ρ := []) (by kernel_rfl) ?_
  obtain ⟨c1, -, c3, c4, c5, c6⟩ := chk_zero.1 hc
  have k1 := chk26 x (by omega)
  rw [hc] at k1
  have hw : IntKind.i64.wrap (x.c + (ys.length : Int)) = x.c + (ys.length : Int) := by rw [IntKind.wrap_i64]; omega
  have hmin : min 1099511627776 (x.c + (ys.length : Int)) = min (x.c + (ys.length : Int)) 1099511627776 := Int.min_comm _ _
  simp only [List.length_map, hw, hmin]
  repeat' (first | with_reducible exact True.intro | with_reducible refine And.intro ?_ ?_ | with_reducible refine condP_dec (fun _ => ?_) (fun _ => ?_) | with_reducible refine condP_eq (fun _ => ?_) (fun _ => ?_) | with_reducible refine condP_ne (fun _ => ?_) (fun _ => ?_) | with_reducible refine condP_not (condP_dec (fun _ => ?_) (fun _ => ?_)) | with_reducible refine condP_not (condP_eq (fun _ => ?_) (fun _ => ?_)) | with_reducible refine condP_not (condP_intro (fun _ => ?_) (fun _ => ?_)) | with_reducible refine condP_intro (fun _ => ?_) (fun _ => ?_))
  all_goals first | exact k1 | exact hL | rfl | skip

set_option maxRecDepth 100000 in
set_option maxHeartbeats 1000000 in
theorem all20n (x : Ls) (hl : x.l.length < 1073741824) (k t : Int) (hc : lChk x ≠ 0) : FnOK Try.prog 20 ([.d (lsD x), .d (.int .i64 k), .d (.int .i64 t)]) ([]) (.tup [.d (lsD x), .d (.sl [])]) ([]) := by
  refine fnOK_wp (p := (FnOK Try.prog (26 : Nat) [AV.d (D.agg [D.sl (List.map pkD x.l), D.int IntKind.i64 x.s, D.int IntKind.i64 x.c])] [] (AV.d (D.int IntKind.i64 (lChk x))) []) ∧ ((D.bool (lChk x != (0 : Int)) = D.bool true) ∧ ((AV.tup [AV.d (D.agg [D.sl (List.map pkD x.l), D.int IntKind.i64 x.s, D.int IntKind.i64 x.c]), AV.d (D.sl [])] = AV.tup [AV.d (D.agg [D.sl (List.map pkD x.l), D.int IntKind.i64 x.s, D.int IntKind.i64 x.c]), AV.d (D.sl [])]) ∧ (True)))) (h := {G := [(26, gChk25 x)], H := [(1, [(2, .val (.bool true))])]}) (subs := [⟨[], [], I20 x k t [] [] 0, .exit 0, I20 x k t [] [] x.l.length⟩]) (ws := []) (ρ := []) (by kernel_rfl) ?_
  have k1 := chk26 x hl
  repeat' (first | with_reducible exact True.intro | with_reducible refine And.intro ?_ ?_ | with_reducible refine condP_dec (fun _ => ?_) (fun _ => ?_) | with_reducible refine condP_eq (fun _ => ?_) (fun _ => ?_) | with_reducible refine condP_ne (fun _ => ?_) (fun _ => ?_) | with_reducible refine condP_not (condP_dec (fun _ => ?_) (fun _ => ?_)) | with_reducible refine condP_not (condP_eq (fun _ => ?_) (fun _ => ?_)) | with_reducible refine condP_not (condP_intro (fun _ => ?_) (fun _ => ?_)) | with_reducible refine condP_intro (fun _ => ?_) (fun _ => ?_))
  all_goals first | exact k1 | rfl | (refine congrArg D.bool ?_; simp; exact hc) | skip

theorem all20 (x : Ls) (hl : x.l.length < 1073741824) (k t : Int) : FnOK Try.prog 20 [.d (lsD x), .d (.int .i64 k), .d (.int .i64 t)] [] (.tup [.d (lsD (lAll x k t)), .d (.sl ((lAllP x k t).map pkD))]) [] := by
  unfold lAll lAllP
  by_cases h : lChk x = 0
  · rw [if_pos h, if_pos h]; exact all20y x k t h _ _ (parts_len _ _) (l20 x hl k t)
  · rw [if_neg h, if_neg h]; exact all20n x hl k t h
/-! ### The same -/
theorem pk_ne {x y : Pk} (h : x ≠ y) : (x.p == y.p && (x.t == y.t && (x.d == y.d && true))) = false := by
  obtain ⟨a, b, c⟩ := x
  obtain ⟨a', b', c'⟩ := y
  cases hq : (a == a' && (b == b' && (c == c' && true)))
  · rfl
  · simp at hq
    exact absurd (by rw [hq.1, hq.2.1, hq.2.2]) h
def E0 (a b : List Pk) (i jj : Nat) (j : Nat) : St := ⟨[(0, .d (.sl (a.map pkD))), (1, .d (.sl (b.map pkD))), (i, .d (.int .i64 j)), (jj, .d (.int .i64 a.length))], []⟩
def E5 (a b : List Pk) (j : Nat) : St := ⟨[(0, .d (.sl (a.map pkD))), (1, .d (.sl (b.map pkD))), (5, .d (.int .i64 j))], []⟩
def O4 : St := ⟨[(4, .d (.bool false))], []⟩
set_option maxRecDepth 100000 in
set_option maxHeartbeats 1000000 in
theorem r40 (a b : List Pk) (hl : a.length < 1073741824) (j : Nat) (x : Pk) (hx : a[j]? = some x) (hy : b[j]? = some x) : Runs Try.prog 0 (loopN Try.prog 40 0) (St.as (E0 a b 13 12 j) 26) (.normal) (St.as (E0 a b 13 12 (j+1)) 26) := by
  refine round_wp (p := condP (decide ((↑j : Int) < (↑a.length : Int))) (((0 : Int) ≤ (↑j : Int)) ∧ (((List.map pkD a)[(↑j : Int).toNat]? = some (D.agg [D.int IntKind.i64 x.p, D.int IntKind.i64 x.t, D.str x.d])) ∧ (((0 : Int) ≤ (↑j : Int)) ∧ (((List.map pkD b)[(↑j : Int).toNat]? = some (D.agg [D.int IntKind.i64 x.p, D.int IntKind.i64 x.t, D.str x.d])) ∧ (((D.bool !(x.p == x.p && (x.t == x.t && (x.d == x.d && true)))) = D.bool false) ∧ ((AV.d (D.sl (List.map pkD a)) = AV.d (D.sl (List.map pkD a))) ∧ ((AV.d (D.sl (List.map pkD b)) = AV.d (D.sl (List.map pkD b))) ∧ ((AV.d (D.int IntKind.i64 (IntKind.i64.wrap ((↑j : Int) + (1 : Int)))) = AV.d (D.int IntKind.i64 (↑(j + (1 : Nat)) : Int))) ∧ ((AV.d (D.int IntKind.i64 (↑a.length : Int)) = AV.d (D.int IntKind.i64 (↑a.length : Int))) ∧ (True)))))))))) (False)) (h := {els := [(16, .el (pkD x)), (20, .el (pkD x))], H := [(6, [(8, .val (.bool false))])]}) (subs := []) (ws := []) (ρ := []) (by kernel_rfl) ?_
  have hj := get_lt hx
  have hj2 := get_lt hy
  have hi := inc_i64 (j := j) (by omega)
  simp only [List.length_map, hi]
  refine condP_t (by rw [decide_eq_true_eq]; omega) ?_
  repeat' (first | with_reducible exact True.intro | with_reducible refine And.intro ?_ ?_ | with_reducible refine condP_dec (fun _ => ?_) (fun _ => ?_) | with_reducible refine condP_eq (fun _ => ?_) (fun _ => ?_) | with_reducible refine condP_ne (fun _ => ?_) (fun _ => ?_) | with_reducible refine condP_not (condP_dec (fun _ => ?_) (fun _ => ?_)) | with_reducible refine condP_not (condP_eq (fun _ => ?_) (fun _ => ?_)) | with_reducible refine condP_not (condP_intro (fun _ => ?_) (fun _ => ?_)) | with_reducible refine condP_intro (fun _ => ?_) (fun _ => ?_))
  all_goals first | exact el_map hx rfl | exact el_map hy rfl | rfl | omega | (refine congrArg D.bool ?_; simp; done) | (exfalso; simp_all; done) | (refine congrArg D.bool ?_; rw [pk_ne hne]; rfl) | (exfalso; have hq := pk_ne hne; simp_all; done) | skip

set_option maxRecDepth 100000 in
set_option maxHeartbeats 1000000 in
theorem e40 (a b : List Pk) (hl : a.length < 1073741824) (j : Nat) (x y : Pk) (hx : a[j]? = some x) (hy : b[j]? = some y) (hne : x ≠ y) : Runs Try.prog 0 (loopN Try.prog 40 0) (St.as (E0 a b 13 12 j) 26) (.ret) (St.as (O4) 26) := by
  refine round_wp (p := condP (decide ((↑j : Int) < (↑a.length : Int))) (((0 : Int) ≤ (↑j : Int)) ∧ (((List.map pkD a)[(↑j : Int).toNat]? = some (D.agg [D.int IntKind.i64 x.p, D.int IntKind.i64 x.t, D.str x.d])) ∧ (((0 : Int) ≤ (↑j : Int)) ∧ (((List.map pkD b)[(↑j : Int).toNat]? = some (D.agg [D.int IntKind.i64 y.p, D.int IntKind.i64 y.t, D.str y.d])) ∧ (((D.bool !(x.p == y.p && (x.t == y.t && (x.d == y.d && true)))) = D.bool true) ∧ ((AV.d (D.bool false) = AV.d (D.bool false)) ∧ (True))))))) (False)) (h := {els := [(16, .el (pkD x)), (20, .el (pkD y))], H := [(6, [(8, .val (.bool true))])]}) (subs := []) (ws := []) (ρ := []) (by kernel_rfl) ?_
  have hj := get_lt hx
  have hj2 := get_lt hy
  have hi := inc_i64 (j := j) (by omega)
  simp only [List.length_map, hi]
  refine condP_t (by rw [decide_eq_true_eq]; omega) ?_
  repeat' (first | with_reducible exact True.intro | with_reducible refine And.intro ?_ ?_ | with_reducible refine condP_dec (fun _ => ?_) (fun _ => ?_) | with_reducible refine condP_eq (fun _ => ?_) (fun _ => ?_) | with_reducible refine condP_ne (fun _ => ?_) (fun _ => ?_) | with_reducible refine condP_not (condP_dec (fun _ => ?_) (fun _ => ?_)) | with_reducible refine condP_not (condP_eq (fun _ => ?_) (fun _ => ?_)) | with_reducible refine condP_not (condP_intro (fun _ => ?_) (fun _ => ?_)) | with_reducible refine condP_intro (fun _ => ?_) (fun _ => ?_))
  all_goals first | exact el_map hx rfl | exact el_map hy rfl | rfl | omega | (refine congrArg D.bool ?_; simp; done) | (exfalso; simp_all; done) | (refine congrArg D.bool ?_; rw [pk_ne hne]; rfl) | (exfalso; have hq := pk_ne hne; simp_all; done) | skip

set_option maxRecDepth 100000 in
set_option maxHeartbeats 1000000 in
theorem q40 (a b : List Pk) : Runs Try.prog 0 (loopN Try.prog 40 0) (St.as (E0 a b 13 12 a.length) 26) (.exit 0) (St.as (E0 a b 13 12 a.length) 26) := by
  refine round_wp (p := condP (decide ((↑a.length : Int) < (↑a.length : Int))) (False) ((AV.d (D.sl (List.map pkD a)) = AV.d (D.sl (List.map pkD a))) ∧ ((AV.d (D.sl (List.map pkD b)) = AV.d (D.sl (List.map pkD b))) ∧ ((AV.d (D.int IntKind.i64 (↑a.length : Int)) = AV.d (D.int IntKind.i64 (↑a.length : Int))) ∧ ((AV.d (D.int IntKind.i64 (↑a.length : Int)) = AV.d (D.int IntKind.i64 (↑a.length : Int))) ∧ (True)))))) (h := {}) (subs := []) (ws := []) (ρ := []) (by kernel_rfl) ?_
  repeat' (first | with_reducible exact True.intro | with_reducible refine And.intro ?_ ?_ | with_reducible refine condP_dec (fun _ => ?_) (fun _ => ?_) | with_reducible refine condP_eq (fun _ => ?_) (fun _ => ?_) | with_reducible refine condP_ne (fun _ => ?_) (fun _ => ?_) | with_reducible refine condP_not (condP_dec (fun _ => ?_) (fun _ => ?_)) | with_reducible refine condP_not (condP_eq (fun _ => ?_) (fun _ => ?_)) | with_reducible refine condP_not (condP_intro (fun _ => ?_) (fun _ => ?_)) | with_reducible refine condP_intro (fun _ => ?_) (fun _ => ?_))
  all_goals (try simp only [List.length_map, AV.d.injEq, D.int.injEq, D.bool.injEq, D.str.injEq, D.sl.injEq, true_and, and_true, decide_eq_true_eq, decide_eq_false_iff_not, decide_eq_decide])
  all_goals (try simp only [List.length_map] at *)
  all_goals first | rfl | omega

set_option maxRecDepth 100000 in
set_option maxHeartbeats 1000000 in
theorem r23 (a b : List Pk) (hl : a.length < 1073741824) (j : Nat) (x : Pk) (hx : a[j]? = some x) (hy : b[j]? = some x) : Runs Try.prog 0 (loopN Try.prog 23 0) (St.as (E5 a b j) 26) (.normal) (St.as (E5 a b (j+1)) 26) := by
  refine round_wp (p := condP (decide ((↑j : Int) < (↑(List.map pkD a).length : Int))) (((0 : Int) ≤ (↑j : Int)) ∧ (((List.map pkD a)[(↑j : Int).toNat]? = some (D.agg [D.int IntKind.i64 x.p, D.int IntKind.i64 x.t, D.str x.d])) ∧ (((0 : Int) ≤ (↑j : Int)) ∧ (((List.map pkD b)[(↑j : Int).toNat]? = some (D.agg [D.int IntKind.i64 x.p, D.int IntKind.i64 x.t, D.str x.d])) ∧ (((D.bool !(x.p == x.p && (x.t == x.t && (x.d == x.d && true)))) = D.bool false) ∧ ((AV.d (D.sl (List.map pkD a)) = AV.d (D.sl (List.map pkD a))) ∧ ((AV.d (D.sl (List.map pkD b)) = AV.d (D.sl (List.map pkD b))) ∧ ((AV.d (D.int IntKind.i64 (IntKind.i64.wrap ((↑j : Int) + (1 : Int)))) = AV.d (D.int IntKind.i64 (↑(j + (1 : Nat)) : Int))) ∧ (True))))))))) (False)) (h := {els := [(17, .el (pkD x)), (21, .el (pkD x))], H := [(6, [(8, .val (.bool false))])]}) (subs := []) (ws := []) (ρ := []) (by kernel_rfl) ?_
  have hj := get_lt hx
  have hj2 := get_lt hy
  have hi := inc_i64 (j := j) (by omega)
  simp only [List.length_map, hi]
  refine condP_t (by rw [decide_eq_true_eq]; omega) ?_
  repeat' (first | with_reducible exact True.intro | with_reducible refine And.intro ?_ ?_ | with_reducible refine condP_dec (fun _ => ?_) (fun _ => ?_) | with_reducible refine condP_eq (fun _ => ?_) (fun _ => ?_) | with_reducible refine condP_ne (fun _ => ?_) (fun _ => ?_) | with_reducible refine condP_not (condP_dec (fun _ => ?_) (fun _ => ?_)) | with_reducible refine condP_not (condP_eq (fun _ => ?_) (fun _ => ?_)) | with_reducible refine condP_not (condP_intro (fun _ => ?_) (fun _ => ?_)) | with_reducible refine condP_intro (fun _ => ?_) (fun _ => ?_))
  all_goals first | exact el_map hx rfl | exact el_map hy rfl | rfl | omega | (refine congrArg D.bool ?_; simp; done) | (exfalso; simp_all; done) | (refine congrArg D.bool ?_; rw [pk_ne hne]; rfl) | (exfalso; have hq := pk_ne hne; simp_all; done) | skip

set_option maxRecDepth 100000 in
set_option maxHeartbeats 1000000 in
theorem e23 (a b : List Pk) (hl : a.length < 1073741824) (j : Nat) (x y : Pk) (hx : a[j]? = some x) (hy : b[j]? = some y) (hne : x ≠ y) : Runs Try.prog 0 (loopN Try.prog 23 0) (St.as (E5 a b j) 26) (.ret) (St.as (O4) 26) := by
  refine round_wp (p := condP (decide ((↑j : Int) < (↑(List.map pkD a).length : Int))) (((0 : Int) ≤ (↑j : Int)) ∧ (((List.map pkD a)[(↑j : Int).toNat]? = some (D.agg [D.int IntKind.i64 x.p, D.int IntKind.i64 x.t, D.str x.d])) ∧ (((0 : Int) ≤ (↑j : Int)) ∧ (((List.map pkD b)[(↑j : Int).toNat]? = some (D.agg [D.int IntKind.i64 y.p, D.int IntKind.i64 y.t, D.str y.d])) ∧ (((D.bool !(x.p == y.p && (x.t == y.t && (x.d == y.d && true)))) = D.bool true) ∧ ((AV.d (D.bool false) = AV.d (D.bool false)) ∧ (True))))))) (False)) (h := {els := [(17, .el (pkD x)), (21, .el (pkD y))], H := [(6, [(8, .val (.bool true))])]}) (subs := []) (ws := []) (ρ := []) (by kernel_rfl) ?_
  have hj := get_lt hx
  have hj2 := get_lt hy
  have hi := inc_i64 (j := j) (by omega)
  simp only [List.length_map, hi]
  refine condP_t (by rw [decide_eq_true_eq]; omega) ?_
  repeat' (first | with_reducible exact True.intro | with_reducible refine And.intro ?_ ?_ | with_reducible refine condP_dec (fun _ => ?_) (fun _ => ?_) | with_reducible refine condP_eq (fun _ => ?_) (fun _ => ?_) | with_reducible refine condP_ne (fun _ => ?_) (fun _ => ?_) | with_reducible refine condP_not (condP_dec (fun _ => ?_) (fun _ => ?_)) | with_reducible refine condP_not (condP_eq (fun _ => ?_) (fun _ => ?_)) | with_reducible refine condP_not (condP_intro (fun _ => ?_) (fun _ => ?_)) | with_reducible refine condP_intro (fun _ => ?_) (fun _ => ?_))
  all_goals first | exact el_map hx rfl | exact el_map hy rfl | rfl | omega | (refine congrArg D.bool ?_; simp; done) | (exfalso; simp_all; done) | (refine congrArg D.bool ?_; rw [pk_ne hne]; rfl) | (exfalso; have hq := pk_ne hne; simp_all; done) | skip

set_option maxRecDepth 100000 in
set_option maxHeartbeats 1000000 in
theorem q23 (a b : List Pk) : Runs Try.prog 0 (loopN Try.prog 23 0) (St.as (E5 a b a.length) 26) (.exit 0) (St.as (E5 a b a.length) 26) := by
  refine round_wp (p := condP (decide ((↑a.length : Int) < (↑(List.map pkD a).length : Int))) (False) ((AV.d (D.sl (List.map pkD a)) = AV.d (D.sl (List.map pkD a))) ∧ ((AV.d (D.sl (List.map pkD b)) = AV.d (D.sl (List.map pkD b))) ∧ ((AV.d (D.int IntKind.i64 (↑a.length : Int)) = AV.d (D.int IntKind.i64 (↑a.length : Int))) ∧ (True))))) (h := {}) (subs := []) (ws := []) (ρ := []) (by kernel_rfl) ?_
  repeat' (first | with_reducible exact True.intro | with_reducible refine And.intro ?_ ?_ | with_reducible refine condP_dec (fun _ => ?_) (fun _ => ?_) | with_reducible refine condP_eq (fun _ => ?_) (fun _ => ?_) | with_reducible refine condP_ne (fun _ => ?_) (fun _ => ?_) | with_reducible refine condP_not (condP_dec (fun _ => ?_) (fun _ => ?_)) | with_reducible refine condP_not (condP_eq (fun _ => ?_) (fun _ => ?_)) | with_reducible refine condP_not (condP_intro (fun _ => ?_) (fun _ => ?_)) | with_reducible refine condP_intro (fun _ => ?_) (fun _ => ?_))
  all_goals (try simp only [List.length_map, AV.d.injEq, D.int.injEq, D.bool.injEq, D.str.injEq, D.sl.injEq, true_and, and_true, decide_eq_true_eq, decide_eq_false_iff_not, decide_eq_decide])
  all_goals (try simp only [List.length_map] at *)
  all_goals first | rfl | omega

set_option maxRecDepth 100000 in
set_option maxHeartbeats 1000000 in
theorem eq40l (a b : List Pk) (h : a.length ≠ b.length) : FnOK Try.prog 40 ([.d (.sl (a.map pkD)), .d (.sl (b.map pkD))]) ([]) (.d (.bool false)) ([]) := by
  refine fnOK_wp (p := condP ((↑(List.map pkD a).length : Int) != (↑(List.map pkD b).length : Int)) ((AV.d (D.bool false) = AV.d (D.bool false)) ∧ (True)) ((AV.d (D.sl (List.map pkD a)) = AV.d (D.sl (List.map pkD a))) ∧ ((AV.d (D.sl (List.map pkD b)) = AV.d (D.sl (List.map pkD b))) ∧ ((AV.d (D.int IntKind.i64 (0 : Int)) = AV.d (D.int IntKind.i64 (0 : Int))) ∧ ((AV.d (D.int IntKind.i64 (↑(List.map pkD a).length : Int)) = AV.d (D.int IntKind.i64 (↑a.length : Int))) ∧ ((LoopsS Try.prog (0 : Nat) (loopN Try.prog (40 : Nat) (0 : Nat)) (E0 a b (13 : Nat) (12 : Nat) (0 : Nat)) Exit.ret O4 (26 : Nat)) ∧ ((AV.d (D.bool false) = AV.d (D.bool false)) ∧ (True)))))))) (h := {}) (subs := [⟨[], [], E0 a b 13 12 0, .ret, O4⟩]) (ws := []) (ρ := []) (by kernel_rfl) ?_
  simp only [List.length_map]
  refine condP_t (by simp; omega) ?_
  first | trivial | exact ⟨rfl, trivial⟩

set_option maxRecDepth 100000 in
set_option maxHeartbeats 1000000 in
theorem eq40y (a b : List Pk) (h : a.length = b.length) (hL : Loops Try.prog 0 (loopN Try.prog 40 0) ((E0 a b 13 12 0).as 26) (.exit 0) ((E0 a b 13 12 a.length).as 26)) : FnOK Try.prog 40 ([.d (.sl (a.map pkD)), .d (.sl (b.map pkD))]) ([]) (.d (.bool true)) ([]) := by
  refine fnOK_wp (p := (D.bool ((↑(List.map pkD a).length : Int) != (↑(List.map pkD b).length : Int)) = D.bool false) ∧ ((AV.d (D.sl (List.map pkD a)) = AV.d (D.sl (List.map pkD a))) ∧ ((AV.d (D.sl (List.map pkD b)) = AV.d (D.sl (List.map pkD b))) ∧ ((AV.d (D.int IntKind.i64 (0 : Int)) = AV.d (D.int IntKind.i64 (0 : Int))) ∧ ((AV.d (D.int IntKind.i64 (↑(List.map pkD a).length : Int)) = AV.d (D.int IntKind.i64 (↑a.length : Int))) ∧ ((LoopsS Try.prog (0 : Nat) (loopN Try.prog (40 : Nat) (0 : Nat)) (E0 a b (13 : Nat) (12 : Nat) (0 : Nat)) (Exit.exit (0 : Nat)) (E0 a b (13 : Nat) (12 : Nat) a.length) (26 : Nat)) ∧ ((AV.d (D.bool true) = AV.d (D.bool true)) ∧ (True)))))))) (h := {H := [(1, [(4, .val (.bool false))])]}) (subs := [⟨[], [], E0 a b 13 12 0, .exit 0, E0 a b 13 12 a.length⟩]) (ws := []) (ρ := []) (by kernel_rfl) ?_
  simp only [List.length_map]
  repeat' (first | with_reducible exact True.intro | with_reducible refine And.intro ?_ ?_ | with_reducible refine condP_dec (fun _ => ?_) (fun _ => ?_) | with_reducible refine condP_eq (fun _ => ?_) (fun _ => ?_) | with_reducible refine condP_ne (fun _ => ?_) (fun _ => ?_) | with_reducible refine condP_not (condP_dec (fun _ => ?_) (fun _ => ?_)) | with_reducible refine condP_not (condP_eq (fun _ => ?_) (fun _ => ?_)) | with_reducible refine condP_not (condP_intro (fun _ => ?_) (fun _ => ?_)) | with_reducible refine condP_intro (fun _ => ?_) (fun _ => ?_))
  all_goals first | exact hL | rfl | exact dno (by omega) | (exfalso; omega) | (refine congrArg D.bool ?_; simp; omega) | skip

set_option maxRecDepth 100000 in
set_option maxHeartbeats 1000000 in
theorem eq40n (a b : List Pk) (h : a.length = b.length) (hL : Loops Try.prog 0 (loopN Try.prog 40 0) ((E0 a b 13 12 0).as 26) .ret (O4.as 26)) : FnOK Try.prog 40 ([.d (.sl (a.map pkD)), .d (.sl (b.map pkD))]) ([]) (.d (.bool false)) ([]) := by
  refine fnOK_wp (p := (D.bool ((↑(List.map pkD a).length : Int) != (↑(List.map pkD b).length : Int)) = D.bool false) ∧ ((AV.d (D.sl (List.map pkD a)) = AV.d (D.sl (List.map pkD a))) ∧ ((AV.d (D.sl (List.map pkD b)) = AV.d (D.sl (List.map pkD b))) ∧ ((AV.d (D.int IntKind.i64 (0 : Int)) = AV.d (D.int IntKind.i64 (0 : Int))) ∧ ((AV.d (D.int IntKind.i64 (↑(List.map pkD a).length : Int)) = AV.d (D.int IntKind.i64 (↑a.length : Int))) ∧ ((LoopsS Try.prog (0 : Nat) (loopN Try.prog (40 : Nat) (0 : Nat)) (E0 a b (13 : Nat) (12 : Nat) (0 : Nat)) Exit.ret O4 (26 : Nat)) ∧ ((AV.d (D.bool false) = AV.d (D.bool false)) ∧ (True)))))))) (h := {H := [(1, [(4, .val (.bool false))])]}) (subs := [⟨[], [], E0 a b 13 12 0, .ret, O4⟩]) (ws := []) (ρ := []) (by kernel_rfl) ?_
  simp only [List.length_map]
  repeat' (first | with_reducible exact True.intro | with_reducible refine And.intro ?_ ?_ | with_reducible refine condP_dec (fun _ => ?_) (fun _ => ?_) | with_reducible refine condP_eq (fun _ => ?_) (fun _ => ?_) | with_reducible refine condP_ne (fun _ => ?_) (fun _ => ?_) | with_reducible refine condP_not (condP_dec (fun _ => ?_) (fun _ => ?_)) | with_reducible refine condP_not (condP_eq (fun _ => ?_) (fun _ => ?_)) | with_reducible refine condP_not (condP_intro (fun _ => ?_) (fun _ => ?_)) | with_reducible refine condP_intro (fun _ => ?_) (fun _ => ?_))
  all_goals first | exact hL | rfl | exact dno (by omega) | (exfalso; omega) | (refine congrArg D.bool ?_; simp; omega) | skip

set_option maxRecDepth 100000 in
set_option maxHeartbeats 1000000 in
theorem eq23l (a b : List Pk) (h : a.length ≠ b.length) : FnOK Try.prog 23 ([.d (.sl (a.map pkD)), .d (.sl (b.map pkD))]) ([]) (.d (.bool false)) ([]) := by
  refine fnOK_wp (p := condP ((↑(List.map pkD a).length : Int) != (↑(List.map pkD b).length : Int)) ((AV.d (D.bool false) = AV.d (D.bool false)) ∧ (True)) ((AV.d (D.sl (List.map pkD a)) = AV.d (D.sl (List.map pkD a))) ∧ ((AV.d (D.sl (List.map pkD b)) = AV.d (D.sl (List.map pkD b))) ∧ ((AV.d (D.int IntKind.i64 (0 : Int)) = AV.d (D.int IntKind.i64 (0 : Int))) ∧ ((LoopsS Try.prog (0 : Nat) (loopN Try.prog (23 : Nat) (0 : Nat)) (E5 a b (0 : Nat)) Exit.ret O4 (26 : Nat)) ∧ ((AV.d (D.bool false) = AV.d (D.bool false)) ∧ (True))))))) (h := {}) (subs := [⟨[], [], E5 a b 0, .ret, O4⟩]) (ws := []) (ρ := []) (by kernel_rfl) ?_
  simp only [List.length_map]
  refine condP_t (by simp; omega) ?_
  first | trivial | exact ⟨rfl, trivial⟩

set_option maxRecDepth 100000 in
set_option maxHeartbeats 1000000 in
theorem eq23y (a b : List Pk) (h : a.length = b.length) (hL : Loops Try.prog 0 (loopN Try.prog 23 0) ((E5 a b 0).as 26) (.exit 0) ((E5 a b a.length).as 26)) : FnOK Try.prog 23 ([.d (.sl (a.map pkD)), .d (.sl (b.map pkD))]) ([]) (.d (.bool true)) ([]) := by
  refine fnOK_wp (p := (D.bool ((↑(List.map pkD a).length : Int) != (↑(List.map pkD b).length : Int)) = D.bool false) ∧ ((AV.d (D.sl (List.map pkD a)) = AV.d (D.sl (List.map pkD a))) ∧ ((AV.d (D.sl (List.map pkD b)) = AV.d (D.sl (List.map pkD b))) ∧ ((AV.d (D.int IntKind.i64 (0 : Int)) = AV.d (D.int IntKind.i64 (0 : Int))) ∧ ((LoopsS Try.prog (0 : Nat) (loopN Try.prog (23 : Nat) (0 : Nat)) (E5 a b (0 : Nat)) (Exit.exit (0 : Nat)) (E5 a b a.length) (26 : Nat)) ∧ ((AV.d (D.bool true) = AV.d (D.bool true)) ∧ (True))))))) (h := {H := [(1, [(4, .val (.bool false))])]}) (subs := [⟨[], [], E5 a b 0, .exit 0, E5 a b a.length⟩]) (ws := []) (ρ := []) (by kernel_rfl) ?_
  simp only [List.length_map]
  repeat' (first | with_reducible exact True.intro | with_reducible refine And.intro ?_ ?_ | with_reducible refine condP_dec (fun _ => ?_) (fun _ => ?_) | with_reducible refine condP_eq (fun _ => ?_) (fun _ => ?_) | with_reducible refine condP_ne (fun _ => ?_) (fun _ => ?_) | with_reducible refine condP_not (condP_dec (fun _ => ?_) (fun _ => ?_)) | with_reducible refine condP_not (condP_eq (fun _ => ?_) (fun _ => ?_)) | with_reducible refine condP_not (condP_intro (fun _ => ?_) (fun _ => ?_)) | with_reducible refine condP_intro (fun _ => ?_) (fun _ => ?_))
  all_goals first | exact hL | rfl | exact dno (by omega) | (exfalso; omega) | (refine congrArg D.bool ?_; simp; omega) | skip

set_option maxRecDepth 100000 in
set_option maxHeartbeats 1000000 in
theorem eq23n (a b : List Pk) (h : a.length = b.length) (hL : Loops Try.prog 0 (loopN Try.prog 23 0) ((E5 a b 0).as 26) .ret (O4.as 26)) : FnOK Try.prog 23 ([.d (.sl (a.map pkD)), .d (.sl (b.map pkD))]) ([]) (.d (.bool false)) ([]) := by
  refine fnOK_wp (p := (D.bool ((↑(List.map pkD a).length : Int) != (↑(List.map pkD b).length : Int)) = D.bool false) ∧ ((AV.d (D.sl (List.map pkD a)) = AV.d (D.sl (List.map pkD a))) ∧ ((AV.d (D.sl (List.map pkD b)) = AV.d (D.sl (List.map pkD b))) ∧ ((AV.d (D.int IntKind.i64 (0 : Int)) = AV.d (D.int IntKind.i64 (0 : Int))) ∧ ((LoopsS Try.prog (0 : Nat) (loopN Try.prog (23 : Nat) (0 : Nat)) (E5 a b (0 : Nat)) Exit.ret O4 (26 : Nat)) ∧ ((AV.d (D.bool false) = AV.d (D.bool false)) ∧ (True))))))) (h := {H := [(1, [(4, .val (.bool false))])]}) (subs := [⟨[], [], E5 a b 0, .ret, O4⟩]) (ws := []) (ρ := []) (by kernel_rfl) ?_
  simp only [List.length_map]
  repeat' (first | with_reducible exact True.intro | with_reducible refine And.intro ?_ ?_ | with_reducible refine condP_dec (fun _ => ?_) (fun _ => ?_) | with_reducible refine condP_eq (fun _ => ?_) (fun _ => ?_) | with_reducible refine condP_ne (fun _ => ?_) (fun _ => ?_) | with_reducible refine condP_not (condP_dec (fun _ => ?_) (fun _ => ?_)) | with_reducible refine condP_not (condP_eq (fun _ => ?_) (fun _ => ?_)) | with_reducible refine condP_not (condP_intro (fun _ => ?_) (fun _ => ?_)) | with_reducible refine condP_intro (fun _ => ?_) (fun _ => ?_))
  all_goals first | exact hL | rfl | exact dno (by omega) | (exfalso; omega) | (refine congrArg D.bool ?_; simp; omega) | skip

theorem eq40 (a b : List Pk) (hl : a.length < 1073741824) : FnOK Try.prog 40 [.d (.sl (a.map pkD)), .d (.sl (b.map pkD))] [] (.d (.bool (decide (a = b)))) [] := by
  by_cases h : a.length = b.length
  · rcases diff_or a b h with e | ⟨m, x, y, h1, h2, h3, h4⟩
    · rw [decide_eq_true e]
      refine eq40y a b h (loops_n (I := fun j => (E0 a b 13 12 j).as 26) (by simp) a.length 0 (by omega) (fun j _ hj => r40 a b hl j a[j] (get_of hj) (by rw [← e]; exact get_of hj)) (q40 a b))
    · have hm := get_lt h1
      rw [decide_eq_false (by rintro rfl; rw [h1] at h2; cases h2; exact h3 rfl)]
      exact eq40n a b h (loops_n (I := fun j => (E0 a b 13 12 j).as 26) (by simp) m 0 (by omega) (fun j _ hj => r40 a b hl j (a[j]'(by omega)) (get_of _) (h4 j _ hj (get_of _))) (e40 a b hl m x y h1 h2 h3))
  · rw [decide_eq_false (by rintro rfl; exact h rfl)]; exact eq40l a b h
theorem eq23 (a b : List Pk) (hl : a.length < 1073741824) : FnOK Try.prog 23 [.d (.sl (a.map pkD)), .d (.sl (b.map pkD))] [] (.d (.bool (decide (a = b)))) [] := by
  by_cases h : a.length = b.length
  · rcases diff_or a b h with e | ⟨m, x, y, h1, h2, h3, h4⟩
    · rw [decide_eq_true e]
      refine eq23y a b h (loops_n (I := fun j => (E5 a b j).as 26) (by simp) a.length 0 (by omega) (fun j _ hj => r23 a b hl j a[j] (get_of hj) (by rw [← e]; exact get_of hj)) (q23 a b))
    · have hm := get_lt h1
      rw [decide_eq_false (by rintro rfl; rw [h1] at h2; cases h2; exact h3 rfl)]
      exact eq23n a b h (loops_n (I := fun j => (E5 a b j).as 26) (by simp) m 0 (by omega) (fun j _ hj => r23 a b hl j (a[j]'(by omega)) (get_of _) (h4 j _ hj (get_of _))) (e23 a b hl m x y h1 h2 h3))
  · rw [decide_eq_false (by rintro rfl; exact h rfl)]; exact eq23l a b h
theorem ls_eq {a b : Ls} : (decide (a = b)) = (decide (a.l = b.l) && (a.s == b.s) && (a.c == b.c)) := by
  obtain ⟨a1, a2, a3⟩ := a
  obtain ⟨b1, b2, b3⟩ := b
  rw [Bool.eq_iff_iff]
  simp [and_assoc]
set_option maxRecDepth 100000 in
set_option maxHeartbeats 1000000 in
theorem same21 (a b : Ls) (hl : a.l.length < 1073741824) : FnOK Try.prog 21 ([.d (lsD a), .d (lsD b)]) ([]) (.d (.bool (decide (a = b)))) ([]) := by
  refine fnOK_wp (p := condP (decide (a.l = b.l)) (condP (a.s == b.s) ((FnOK Try.prog (23 : Nat) [AV.d (D.sl (List.map pkD a.l)), AV.d (D.sl (List.map pkD b.l))] [] (AV.d (D.bool (decide (a.l = b.l)))) []) ∧ ((D.bool (decide (a.l = b.l)) = D.bool true) ∧ ((D.bool (a.s == b.s) = D.bool true) ∧ ((AV.d (D.bool (a.c == b.c)) = AV.d (D.bool (decide (a = b)))) ∧ (True))))) ((FnOK Try.prog (23 : Nat) [AV.d (D.sl (List.map pkD a.l)), AV.d (D.sl (List.map pkD b.l))] [] (AV.d (D.bool (decide (a.l = b.l)))) []) ∧ ((D.bool (decide (a.l = b.l)) = D.bool true) ∧ ((D.bool (a.s == b.s) = D.bool false) ∧ ((AV.d (D.bool false) = AV.d (D.bool (decide (a = b)))) ∧ (True)))))) ((FnOK Try.prog (23 : Nat) [AV.d (D.sl (List.map pkD a.l)), AV.d (D.sl (List.map pkD b.l))] [] (AV.d (D.bool (decide (a.l = b.l)))) []) ∧ ((D.bool (decide (a.l = b.l)) = D.bool false) ∧ ((D.bool false = D.bool false) ∧ ((AV.d (D.bool false) = AV.d (D.bool (decide (a = b)))) ∧ (True)))))) (h := {H := [(1, [(4, .call [] (.d (.bool (decide (a.l = b.l)))) [])])]}) (subs := []) (ws := []) (ρ := []) (by kernel_rfl) ?_
  have k1 := eq23 a.l b.l hl
  rw [ls_eq]
  repeat' (first | with_reducible exact True.intro | with_reducible refine And.intro ?_ ?_ | with_reducible refine condP_dec (fun _ => ?_) (fun _ => ?_) | with_reducible refine condP_eq (fun _ => ?_) (fun _ => ?_) | with_reducible refine condP_ne (fun _ => ?_) (fun _ => ?_) | with_reducible refine condP_not (condP_dec (fun _ => ?_) (fun _ => ?_)) | with_reducible refine condP_not (condP_eq (fun _ => ?_) (fun _ => ?_)) | with_reducible refine condP_not (condP_intro (fun _ => ?_) (fun _ => ?_)) | with_reducible refine condP_intro (fun _ => ?_) (fun _ => ?_))
  all_goals first | exact k1 | rfl | (simp_all; done) | skip

set_option maxRecDepth 100000 in
set_option maxHeartbeats 1000000 in
theorem same27 (a b : Ls) (hl : a.l.length < 1073741824) : FnOK Try.prog 27 ([.d (lsD a), .d (lsD b)]) ([]) (.d (.bool (decide (a = b)))) ([]) := by
  refine fnOK_wp (p := condP (a.s == b.s) (condP (a.c == b.c) ((D.bool (a.s == b.s) = D.bool true) ∧ ((D.bool (a.c == b.c) = D.bool true) ∧ ((FnOK Try.prog (40 : Nat) [AV.d (D.sl (List.map pkD a.l)), AV.d (D.sl (List.map pkD b.l))] [] (AV.d (D.bool (decide (a.l = b.l)))) []) ∧ ((AV.d (D.bool (decide (a.l = b.l))) = AV.d (D.bool (decide (a = b)))) ∧ (True))))) ((D.bool (a.s == b.s) = D.bool true) ∧ ((D.bool (a.c == b.c) = D.bool false) ∧ ((AV.d (D.bool false) = AV.d (D.bool (decide (a = b)))) ∧ (True))))) ((D.bool (a.s == b.s) = D.bool false) ∧ ((D.bool false = D.bool false) ∧ ((AV.d (D.bool false) = AV.d (D.bool (decide (a = b)))) ∧ (True))))) (h := {H := [(1, [(17, .call [] (.d (.bool (decide (a.l = b.l)))) [])])]}) (subs := []) (ws := []) (ρ := []) (by kernel_rfl) ?_
  have k1 := eq40 a.l b.l hl
  rw [ls_eq]
  repeat' (first | with_reducible exact True.intro | with_reducible refine And.intro ?_ ?_ | with_reducible refine condP_dec (fun _ => ?_) (fun _ => ?_) | with_reducible refine condP_eq (fun _ => ?_) (fun _ => ?_) | with_reducible refine condP_ne (fun _ => ?_) (fun _ => ?_) | with_reducible refine condP_not (condP_dec (fun _ => ?_) (fun _ => ?_)) | with_reducible refine condP_not (condP_eq (fun _ => ?_) (fun _ => ?_)) | with_reducible refine condP_not (condP_intro (fun _ => ?_) (fun _ => ?_)) | with_reducible refine condP_intro (fun _ => ?_) (fun _ => ?_))
  all_goals first | exact k1 | rfl | (simp_all; done) | skip

/-! ### Handing over -/
def I8 (x : Ls) (j : Nat) : St := ⟨[(1, .ptr 0 0), (2, .ptr 1 0), (3, .ptr 2 0), (4, .d (.int .i64 j))], [(0, lsC x), (1, lsZ), (2, .box [.own 3 3, .d (.int .i64 x.s), .d (.int .i64 x.c)]), (3, .row 3 ((x.l.take j).map pkD))]⟩
set_option maxRecDepth 100000 in
set_option maxHeartbeats 1000000 in
theorem r8 (x : Ls) (hl : x.l.length < 1073741824) (j : Nat) (y : Pk) (hn : x.l[j]? = some y) : Runs Try.prog 0 (loopN Try.prog 8 0) (St.as (I8 x j) 28) (.normal) (St.as (I8 x (j+1)) 28) := by
  refine round_wp (p := condP (decide ((↑j : Int) < (↑(List.map pkD x.l).length : Int))) (((0 : Int) ≤ (↑j : Int)) ∧ (((List.map pkD x.l)[(↑j : Int).toNat]? = some (D.agg [D.int IntKind.i64 y.p, D.int IntKind.i64 y.t, D.str y.d])) ∧ ((((List.map pkD (List.take j x.l)).length + [D.agg (List.take (3 : Nat) [D.int IntKind.i64 y.p, D.int IntKind.i64 y.t, D.str y.d])].length) * (32 : Nat) ≤ (140737488355328 : Nat)) ∧ ((∀ (e : D), e ∈ chunk (3 : Nat) (1 : Nat) [D.int IntKind.i64 y.p, D.int IntKind.i64 y.t, D.str y.d] → e.cells.length = (3 : Nat)) ∧ ((AV.ptr (0 : Nat) (0 : Nat) = AV.ptr (0 : Nat) (0 : Nat)) ∧ ((AV.ptr (1 : Nat) (0 : Nat) = AV.ptr (1 : Nat) (0 : Nat)) ∧ ((AV.ptr (2 : Nat) (0 : Nat) = AV.ptr (2 : Nat) (0 : Nat)) ∧ ((AV.d (D.int IntKind.i64 (IntKind.i64.wrap ((↑j : Int) + (1 : Int)))) = AV.d (D.int IntKind.i64 (↑(j + (1 : Nat)) : Int))) ∧ ((Ob.box [AV.d (D.sl (List.map pkD x.l)), AV.d (D.int IntKind.i64 x.s), AV.d (D.int IntKind.i64 x.c)] = Ob.box [AV.d (D.sl (List.map pkD x.l)), AV.d (D.int IntKind.i64 x.s), AV.d (D.int IntKind.i64 x.c)]) ∧ ((Ob.box [AV.raw (Value.slice none (0 : Nat) (0 : Nat)), AV.d (D.int IntKind.i64 (0 : Int)), AV.d (D.int IntKind.i64 (0 : Int))] = Ob.box [AV.raw (Value.slice none (0 : Nat) (0 : Nat)), AV.d (D.int IntKind.i64 (0 : Int)), AV.d (D.int IntKind.i64 (0 : Int))]) ∧ ((Ob.box [AV.own (1200 : Nat) (3 : Nat), AV.d (D.int IntKind.i64 x.s), AV.d (D.int IntKind.i64 x.c)] = Ob.box [AV.own (1200 : Nat) (3 : Nat), AV.d (D.int IntKind.i64 x.s), AV.d (D.int IntKind.i64 x.c)]) ∧ ((Ob.row (3 : Nat) (List.map pkD (List.take j x.l) ++ [D.agg (List.take (3 : Nat) [D.int IntKind.i64 y.p, D.int IntKind.i64 y.t, D.str y.d])]) = Ob.row (3 : Nat) (List.map pkD (List.take (j + (1 : Nat)) x.l))) ∧ (True))))))))))))) (False)) (h := {els := [(20, .el (pkD y))]}) (subs := []) (ws := []) (ρ := []) (by kernel_rfl) ?_
  have hj := get_lt hn
  rw [inc_i64 (by omega), take_map_snoc _ hn]
  refine condP_t (by rw [decide_eq_true_eq, List.length_map]; omega) ?_
  repeat' (first | with_reducible exact True.intro | with_reducible refine And.intro ?_ ?_ | with_reducible refine condP_dec (fun _ => ?_) (fun _ => ?_) | with_reducible refine condP_eq (fun _ => ?_) (fun _ => ?_) | with_reducible refine condP_ne (fun _ => ?_) (fun _ => ?_) | with_reducible refine condP_not (condP_dec (fun _ => ?_) (fun _ => ?_)) | with_reducible refine condP_not (condP_eq (fun _ => ?_) (fun _ => ?_)) | with_reducible refine condP_not (condP_intro (fun _ => ?_) (fun _ => ?_)) | with_reducible refine condP_intro (fun _ => ?_) (fun _ => ?_))
  all_goals first | exact el_map hn rfl | rfl | omega | (simp; omega) | (simp [chunk, pkD, D.cells]; done) | skip

set_option maxRecDepth 100000 in
set_option maxHeartbeats 1000000 in
theorem q8 (x : Ls) : Runs Try.prog 0 (loopN Try.prog 8 0) (St.as (I8 x x.l.length) 28) (.exit 0) (St.as (I8 x x.l.length) 28) := by
  refine round_wp (p := condP (decide ((↑x.l.length : Int) < (↑(List.map pkD x.l).length : Int))) (False) ((AV.ptr (0 : Nat) (0 : Nat) = AV.ptr (0 : Nat) (0 : Nat)) ∧ ((AV.ptr (1 : Nat) (0 : Nat) = AV.ptr (1 : Nat) (0 : Nat)) ∧ ((AV.ptr (2 : Nat) (0 : Nat) = AV.ptr (2 : Nat) (0 : Nat)) ∧ ((AV.d (D.int IntKind.i64 (↑x.l.length : Int)) = AV.d (D.int IntKind.i64 (↑x.l.length : Int))) ∧ ((Ob.box [AV.d (D.sl (List.map pkD x.l)), AV.d (D.int IntKind.i64 x.s), AV.d (D.int IntKind.i64 x.c)] = Ob.box [AV.d (D.sl (List.map pkD x.l)), AV.d (D.int IntKind.i64 x.s), AV.d (D.int IntKind.i64 x.c)]) ∧ ((Ob.box [AV.raw (Value.slice none (0 : Nat) (0 : Nat)), AV.d (D.int IntKind.i64 (0 : Int)), AV.d (D.int IntKind.i64 (0 : Int))] = Ob.box [AV.raw (Value.slice none (0 : Nat) (0 : Nat)), AV.d (D.int IntKind.i64 (0 : Int)), AV.d (D.int IntKind.i64 (0 : Int))]) ∧ ((Ob.box [AV.own (3 : Nat) (3 : Nat), AV.d (D.int IntKind.i64 x.s), AV.d (D.int IntKind.i64 x.c)] = Ob.box [AV.own (3 : Nat) (3 : Nat), AV.d (D.int IntKind.i64 x.s), AV.d (D.int IntKind.i64 x.c)]) ∧ ((Ob.row (3 : Nat) (List.map pkD (List.take x.l.length x.l)) = Ob.row (3 : Nat) (List.map pkD (List.take x.l.length x.l))) ∧ (True)))))))))) (h := {}) (subs := []) (ws := []) (ρ := []) (by kernel_rfl) ?_
  repeat' (first | with_reducible exact True.intro | with_reducible refine And.intro ?_ ?_ | with_reducible refine condP_dec (fun _ => ?_) (fun _ => ?_) | with_reducible refine condP_eq (fun _ => ?_) (fun _ => ?_) | with_reducible refine condP_ne (fun _ => ?_) (fun _ => ?_) | with_reducible refine condP_not (condP_dec (fun _ => ?_) (fun _ => ?_)) | with_reducible refine condP_not (condP_eq (fun _ => ?_) (fun _ => ?_)) | with_reducible refine condP_not (condP_intro (fun _ => ?_) (fun _ => ?_)) | with_reducible refine condP_intro (fun _ => ?_) (fun _ => ?_))
  all_goals (try simp only [List.length_map, AV.d.injEq, D.int.injEq, D.bool.injEq, D.str.injEq, D.sl.injEq, true_and, and_true, decide_eq_true_eq, decide_eq_false_iff_not, decide_eq_decide])
  all_goals (try simp only [List.length_map] at *)
  all_goals first | rfl | omega

theorem l8 (x : Ls) (hl : x.l.length < 1073741824) : Loops Try.prog 0 (loopN Try.prog 8 0) ((I8 x 0).as 28) (.exit 0) ((I8 x x.l.length).as 28) :=
  loops_n (I := fun j => (I8 x j).as 28) (by simp) x.l.length 0 (by omega) (fun j _ hj => r8 x hl j x.l[j] (get_of hj)) (q8 x)
set_option maxRecDepth 100000 in
set_option maxHeartbeats 1000000 in
theorem own8 (x : Ls) (hl : x.l.length < 1073741824) : FnOK Try.prog 8 ([.d (lsD x)]) ([]) (.d (lsD x)) ([]) := by
  refine fnOK_wp (p := (AV.ptr (1008 : Nat) (0 : Nat) = AV.ptr (1008 : Nat) (0 : Nat)) ∧ ((AV.ptr (1016 : Nat) (0 : Nat) = AV.ptr (1016 : Nat) (0 : Nat)) ∧ ((AV.ptr (1024 : Nat) (0 : Nat) = AV.ptr (1024 : Nat) (0 : Nat)) ∧ ((AV.d (D.int IntKind.i64 (0 : Int)) = AV.d (D.int IntKind.i64 (0 : Int))) ∧ ((Ob.box [AV.d (D.sl (List.map pkD x.l)), AV.d (D.int IntKind.i64 x.s), AV.d (D.int IntKind.i64 x.c)] = Ob.box [AV.d (D.sl (List.map pkD x.l)), AV.d (D.int IntKind.i64 x.s), AV.d (D.int IntKind.i64 x.c)]) ∧ ((Ob.box [AV.raw (Value.slice none (0 : Nat) (0 : Nat)), AV.d (D.int IntKind.i64 (0 : Int)), AV.d (D.int IntKind.i64 (0 : Int))] = Ob.box [AV.raw (Value.slice none (0 : Nat) (0 : Nat)), AV.d (D.int IntKind.i64 (0 : Int)), AV.d (D.int IntKind.i64 (0 : Int))]) ∧ ((Ob.box [AV.own (500 : Nat) (3 : Nat), AV.d (D.int IntKind.i64 x.s), AV.d (D.int IntKind.i64 x.c)] = Ob.box [AV.own (500 : Nat) (3 : Nat), AV.d (D.int IntKind.i64 x.s), AV.d (D.int IntKind.i64 x.c)]) ∧ ((Ob.row (3 : Nat) [] = Ob.row (3 : Nat) []) ∧ ((LoopsS Try.prog (0 : Nat) (loopN Try.prog (8 : Nat) (0 : Nat)) (I8 x (0 : Nat)) (Exit.exit (0 : Nat)) (I8 x x.l.length) (28 : Nat)) ∧ ((AV.d (D.agg [D.sl (List.map pkD (List.take x.l.length x.l)), D.int IntKind.i64 x.s, D.int IntKind.i64 x.c]) = AV.d (D.agg [D.sl (List.map pkD x.l), D.int IntKind.i64 x.s, D.int IntKind.i64 x.c])) ∧ (True))))))))))) (h := {W := [(2, [.nilcell 1024 0 500 3])]}) (subs := [⟨[], [], I8 x 0, .exit 0, I8 x x.l.length⟩]) (ws := []) (ρ := []) (by kernel_rfl) ?_
  have h := l8 x hl
  repeat' (first | with_reducible exact True.intro | with_reducible refine And.intro ?_ ?_ | with_reducible refine condP_dec (fun _ => ?_) (fun _ => ?_) | with_reducible refine condP_eq (fun _ => ?_) (fun _ => ?_) | with_reducible refine condP_ne (fun _ => ?_) (fun _ => ?_) | with_reducible refine condP_not (condP_dec (fun _ => ?_) (fun _ => ?_)) | with_reducible refine condP_not (condP_eq (fun _ => ?_) (fun _ => ?_)) | with_reducible refine condP_not (condP_intro (fun _ => ?_) (fun _ => ?_)) | with_reducible refine condP_intro (fun _ => ?_) (fun _ => ?_))
  all_goals first | exact h | rfl | (rw [List.take_length]) | skip

def I24 (l : List Pk) (j : Nat) : St := ⟨[(0, .d (.sl (l.map pkD))), (3, .own 0 3), (4, .d (.int .i64 j))], [(0, .row 3 ((l.take j).map pkD))]⟩
set_option maxRecDepth 100000 in
set_option maxHeartbeats 1000000 in
theorem r24 (l : List Pk) (hl : l.length < 1073741824) (j : Nat) (y : Pk) (hn : l[j]? = some y) : Runs Try.prog 0 (loopN Try.prog 24 0) (St.as (I24 l j) 19) (.normal) (St.as (I24 l (j+1)) 19) := by
  refine round_wp (p := condP (decide ((↑j : Int) < (↑(List.map pkD l).length : Int))) (((0 : Int) ≤ (↑j : Int)) ∧ (((List.map pkD l)[(↑j : Int).toNat]? = some (D.agg [D.int IntKind.i64 y.p, D.int IntKind.i64 y.t, D.str y.d])) ∧ ((((List.map pkD (List.take j l)).length + [D.agg (List.take (3 : Nat) [D.int IntKind.i64 y.p, D.int IntKind.i64 y.t, D.str y.d])].length) * (32 : Nat) ≤ (140737488355328 : Nat)) ∧ ((∀ (e : D), e ∈ chunk (3 : Nat) (1 : Nat) [D.int IntKind.i64 y.p, D.int IntKind.i64 y.t, D.str y.d] → e.cells.length = (3 : Nat)) ∧ ((AV.d (D.sl (List.map pkD l)) = AV.d (D.sl (List.map pkD l))) ∧ ((AV.own (1136 : Nat) (3 : Nat) = AV.own (1136 : Nat) (3 : Nat)) ∧ ((AV.d (D.int IntKind.i64 (IntKind.i64.wrap ((↑j : Int) + (1 : Int)))) = AV.d (D.int IntKind.i64 (↑(j + (1 : Nat)) : Int))) ∧ ((Ob.row (3 : Nat) (List.map pkD (List.take j l) ++ [D.agg (List.take (3 : Nat) [D.int IntKind.i64 y.p, D.int IntKind.i64 y.t, D.str y.d])]) = Ob.row (3 : Nat) (List.map pkD (List.take (j + (1 : Nat)) l))) ∧ (True))))))))) (False)) (h := {els := [(12, .el (pkD y))]}) (subs := []) (ws := []) (ρ := []) (by kernel_rfl) ?_
  have hj := get_lt hn
  rw [inc_i64 (by omega), take_map_snoc _ hn]
  refine condP_t (by rw [decide_eq_true_eq, List.length_map]; omega) ?_
  repeat' (first | with_reducible exact True.intro | with_reducible refine And.intro ?_ ?_ | with_reducible refine condP_dec (fun _ => ?_) (fun _ => ?_) | with_reducible refine condP_eq (fun _ => ?_) (fun _ => ?_) | with_reducible refine condP_ne (fun _ => ?_) (fun _ => ?_) | with_reducible refine condP_not (condP_dec (fun _ => ?_) (fun _ => ?_)) | with_reducible refine condP_not (condP_eq (fun _ => ?_) (fun _ => ?_)) | with_reducible refine condP_not (condP_intro (fun _ => ?_) (fun _ => ?_)) | with_reducible refine condP_intro (fun _ => ?_) (fun _ => ?_))
  all_goals first | exact el_map hn rfl | rfl | omega | (simp; omega) | (simp [chunk, pkD, D.cells]; done) | skip

set_option maxRecDepth 100000 in
set_option maxHeartbeats 1000000 in
theorem q24 (l : List Pk) : Runs Try.prog 0 (loopN Try.prog 24 0) (St.as (I24 l l.length) 19) (.exit 0) (St.as (I24 l l.length) 19) := by
  refine round_wp (p := condP (decide ((↑l.length : Int) < (↑(List.map pkD l).length : Int))) (False) ((AV.d (D.sl (List.map pkD l)) = AV.d (D.sl (List.map pkD l))) ∧ ((AV.own (0 : Nat) (3 : Nat) = AV.own (0 : Nat) (3 : Nat)) ∧ ((AV.d (D.int IntKind.i64 (↑l.length : Int)) = AV.d (D.int IntKind.i64 (↑l.length : Int))) ∧ ((Ob.row (3 : Nat) (List.map pkD (List.take l.length l)) = Ob.row (3 : Nat) (List.map pkD (List.take l.length l))) ∧ (True)))))) (h := {}) (subs := []) (ws := []) (ρ := []) (by kernel_rfl) ?_
  repeat' (first | with_reducible exact True.intro | with_reducible refine And.intro ?_ ?_ | with_reducible refine condP_dec (fun _ => ?_) (fun _ => ?_) | with_reducible refine condP_eq (fun _ => ?_) (fun _ => ?_) | with_reducible refine condP_ne (fun _ => ?_) (fun _ => ?_) | with_reducible refine condP_not (condP_dec (fun _ => ?_) (fun _ => ?_)) | with_reducible refine condP_not (condP_eq (fun _ => ?_) (fun _ => ?_)) | with_reducible refine condP_not (condP_intro (fun _ => ?_) (fun _ => ?_)) | with_reducible refine condP_intro (fun _ => ?_) (fun _ => ?_))
  all_goals (try simp only [List.length_map, AV.d.injEq, D.int.injEq, D.bool.injEq, D.str.injEq, D.sl.injEq, true_and, and_true, decide_eq_true_eq, decide_eq_false_iff_not, decide_eq_decide])
  all_goals (try simp only [List.length_map] at *)
  all_goals first | rfl | omega

theorem l24 (l : List Pk) (hl : l.length < 1073741824) : Loops Try.prog 0 (loopN Try.prog 24 0) ((I24 l 0).as 19) (.exit 0) ((I24 l l.length).as 19) :=
  loops_n (I := fun j => (I24 l j).as 19) (by simp) l.length 0 (by omega) (fun j _ hj => r24 l hl j l[j] (get_of hj)) (q24 l)
set_option maxRecDepth 100000 in
set_option maxHeartbeats 1000000 in
theorem packets24 (l : List Pk) (hl : l.length < 1073741824) : FnOK Try.prog 24 ([.d (.sl (l.map pkD))]) ([]) (.d (.sl (l.map pkD))) ([]) := by
  refine fnOK_wp (p := (AV.d (D.sl (List.map pkD l)) = AV.d (D.sl (List.map pkD l))) ∧ ((AV.own (900 : Nat) (3 : Nat) = AV.own (900 : Nat) (3 : Nat)) ∧ ((AV.d (D.int IntKind.i64 (0 : Int)) = AV.d (D.int IntKind.i64 (0 : Int))) ∧ ((Ob.row (3 : Nat) [] = Ob.row (3 : Nat) []) ∧ ((LoopsS Try.prog (0 : Nat) (loopN Try.prog (24 : Nat) (0 : Nat)) (I24 l (0 : Nat)) (Exit.exit (0 : Nat)) (I24 l l.length) (19 : Nat)) ∧ ((AV.d (D.sl (List.map pkD (List.take l.length l))) = AV.d (D.sl (List.map pkD l))) ∧ (True))))))) (h := {}) (subs := [⟨[], [], I24 l 0, .exit 0, I24 l l.length⟩]) (ws := []) (ρ := []) (by kernel_rfl) ?_
  have h := l24 l hl
  repeat' (first | with_reducible exact True.intro | with_reducible refine And.intro ?_ ?_ | with_reducible refine condP_dec (fun _ => ?_) (fun _ => ?_) | with_reducible refine condP_eq (fun _ => ?_) (fun _ => ?_) | with_reducible refine condP_ne (fun _ => ?_) (fun _ => ?_) | with_reducible refine condP_not (condP_dec (fun _ => ?_) (fun _ => ?_)) | with_reducible refine condP_not (condP_eq (fun _ => ?_) (fun _ => ?_)) | with_reducible refine condP_not (condP_intro (fun _ => ?_) (fun _ => ?_)) | with_reducible refine condP_intro (fun _ => ?_) (fun _ => ?_))
  all_goals first | exact h | rfl | (rw [List.take_length]) | skip

set_option maxRecDepth 100000 in
set_option maxHeartbeats 1000000 in
theorem back22 (x : Ls) (hl : x.l.length < 1073741824) : FnOK Try.prog 22 ([.d (lsD x)]) ([]) (.d (lsD x)) ([]) := by
  refine fnOK_wp (p := (FnOK Try.prog (24 : Nat) [AV.d (D.sl (List.map pkD x.l))] [] (AV.d (D.sl (List.map pkD x.l))) []) ∧ ((AV.d (D.agg [D.sl (List.map pkD x.l), D.int IntKind.i64 x.s, D.int IntKind.i64 x.c]) = AV.d (D.agg [D.sl (List.map pkD x.l), D.int IntKind.i64 x.s, D.int IntKind.i64 x.c])) ∧ (True))) (h := {G := [(24, fun _ => some (.d (.sl (x.l.map pkD)), []))]}) (subs := []) (ws := []) (ρ := []) (by kernel_rfl) ?_
  exact ⟨packets24 x.l hl, rfl, trivial⟩

/-! ### Few -/
def Sm (x : Pk) : Prop := x.d.length ≤ 200
def I6 (x : Ls) (j : Nat) : St := ⟨[(1, .ptr 0 0), (3, .d (.int .i64 j))], [(0, lsC x)]⟩
def O6 : St := ⟨[(2, .d (.bool false))], []⟩
set_option maxRecDepth 100000 in
set_option maxHeartbeats 1000000 in
theorem r6 (x : Ls) (hl : x.l.length ≤ 210) (j : Nat) (y : Pk) (hn : x.l[j]? = some y) (hx : Sm y) : Runs Try.prog 0 (loopN Try.prog 6 0) (St.as (I6 x j) 23) (.normal) (St.as (I6 x (j+1)) 23) := by
  refine round_wp (p := condP (decide ((↑j : Int) < (↑(List.map pkD x.l).length : Int))) (((0 : Int) ≤ (↑j : Int)) ∧ (((List.map pkD x.l)[(↑j : Int).toNat]? = some (D.agg [D.int IntKind.i64 y.p, D.int IntKind.i64 y.t, D.str y.d])) ∧ ((D.bool (decide ((↑y.d.length : Int) > (200 : Int))) = D.bool false) ∧ ((AV.ptr (0 : Nat) (0 : Nat) = AV.ptr (0 : Nat) (0 : Nat)) ∧ ((AV.d (D.int IntKind.i64 (IntKind.i64.wrap ((↑j : Int) + (1 : Int)))) = AV.d (D.int IntKind.i64 (↑(j + (1 : Nat)) : Int))) ∧ ((Ob.box [AV.d (D.sl (List.map pkD x.l)), AV.d (D.int IntKind.i64 x.s), AV.d (D.int IntKind.i64 x.c)] = Ob.box [AV.d (D.sl (List.map pkD x.l)), AV.d (D.int IntKind.i64 x.s), AV.d (D.int IntKind.i64 x.c)]) ∧ (True))))))) (False)) (h := {els := [(16, .el (pkD y))], H := [(6, [(7, .val (.bool false))])]}) (subs := []) (ws := []) (ρ := []) (by kernel_rfl) ?_
  have hj := get_lt hn
  have h1 : y.d.length ≤ 200 := hx
  rw [inc_i64 (by omega)]
  refine condP_t (by rw [decide_eq_true_eq, List.length_map]; omega) ?_
  repeat' (first | with_reducible exact True.intro | with_reducible refine And.intro ?_ ?_ | with_reducible refine condP_dec (fun _ => ?_) (fun _ => ?_) | with_reducible refine condP_eq (fun _ => ?_) (fun _ => ?_) | with_reducible refine condP_ne (fun _ => ?_) (fun _ => ?_) | with_reducible refine condP_not (condP_dec (fun _ => ?_) (fun _ => ?_)) | with_reducible refine condP_not (condP_eq (fun _ => ?_) (fun _ => ?_)) | with_reducible refine condP_not (condP_intro (fun _ => ?_) (fun _ => ?_)) | with_reducible refine condP_intro (fun _ => ?_) (fun _ => ?_))
  all_goals first | exact el_map hn rfl | rfl | omega | exact dno (by omega) | skip

set_option maxRecDepth 100000 in
set_option maxHeartbeats 1000000 in
theorem e6 (x : Ls) (hl : x.l.length ≤ 210) (j : Nat) (y : Pk) (hn : x.l[j]? = some y) (hx : ¬Sm y) : Runs Try.prog 0 (loopN Try.prog 6 0) (St.as (I6 x j) 23) (.ret) (St.as (O6) 23) := by
  refine round_wp (p := condP (decide ((↑j : Int) < (↑(List.map pkD x.l).length : Int))) (((0 : Int) ≤ (↑j : Int)) ∧ (((List.map pkD x.l)[(↑j : Int).toNat]? = some (D.agg [D.int IntKind.i64 y.p, D.int IntKind.i64 y.t, D.str y.d])) ∧ ((D.bool (decide ((↑y.d.length : Int) > (200 : Int))) = D.bool true) ∧ ((AV.d (D.bool false) = AV.d (D.bool false)) ∧ (True))))) (False)) (h := {els := [(16, .el (pkD y))], H := [(6, [(7, .val (.bool true))])]}) (subs := []) (ws := []) (ρ := []) (by kernel_rfl) ?_
  have hj := get_lt hn
  have h1 : ¬y.d.length ≤ 200 := hx
  refine condP_t (by rw [decide_eq_true_eq, List.length_map]; omega) ?_
  repeat' (first | with_reducible exact True.intro | with_reducible refine And.intro ?_ ?_ | with_reducible refine condP_dec (fun _ => ?_) (fun _ => ?_) | with_reducible refine condP_eq (fun _ => ?_) (fun _ => ?_) | with_reducible refine condP_ne (fun _ => ?_) (fun _ => ?_) | with_reducible refine condP_not (condP_dec (fun _ => ?_) (fun _ => ?_)) | with_reducible refine condP_not (condP_eq (fun _ => ?_) (fun _ => ?_)) | with_reducible refine condP_not (condP_intro (fun _ => ?_) (fun _ => ?_)) | with_reducible refine condP_intro (fun _ => ?_) (fun _ => ?_))
  all_goals first | exact el_map hn rfl | rfl | omega | exact dyes (by omega) | skip

set_option maxRecDepth 100000 in
set_option maxHeartbeats 1000000 in
theorem q6 (x : Ls) : Runs Try.prog 0 (loopN Try.prog 6 0) (St.as (I6 x x.l.length) 23) (.exit 0) (St.as (I6 x x.l.length) 23) := by
  refine round_wp (p := condP (decide ((↑x.l.length : Int) < (↑(List.map pkD x.l).length : Int))) (False) ((AV.ptr (0 : Nat) (0 : Nat) = AV.ptr (0 : Nat) (0 : Nat)) ∧ ((AV.d (D.int IntKind.i64 (↑x.l.length : Int)) = AV.d (D.int IntKind.i64 (↑x.l.length : Int))) ∧ ((Ob.box [AV.d (D.sl (List.map pkD x.l)), AV.d (D.int IntKind.i64 x.s), AV.d (D.int IntKind.i64 x.c)] = Ob.box [AV.d (D.sl (List.map pkD x.l)), AV.d (D.int IntKind.i64 x.s), AV.d (D.int IntKind.i64 x.c)]) ∧ (True))))) (h := {}) (subs := []) (ws := []) (ρ := []) (by kernel_rfl) ?_
  repeat' (first | with_reducible exact True.intro | with_reducible refine And.intro ?_ ?_ | with_reducible refine condP_dec (fun _ => ?_) (fun _ => ?_) | with_reducible refine condP_eq (fun _ => ?_) (fun _ => ?_) | with_reducible refine condP_ne (fun _ => ?_) (fun _ => ?_) | with_reducible refine condP_not (condP_dec (fun _ => ?_) (fun _ => ?_)) | with_reducible refine condP_not (condP_eq (fun _ => ?_) (fun _ => ?_)) | with_reducible refine condP_not (condP_intro (fun _ => ?_) (fun _ => ?_)) | with_reducible refine condP_intro (fun _ => ?_) (fun _ => ?_))
  all_goals (try simp only [List.length_map, AV.d.injEq, D.int.injEq, D.bool.injEq, D.str.injEq, D.sl.injEq, true_and, and_true, decide_eq_true_eq, decide_eq_false_iff_not, decide_eq_decide])
  all_goals (try simp only [List.length_map] at *)
  all_goals first | rfl | omega

set_option maxRecDepth 100000 in
set_option maxHeartbeats 1000000 in
theorem few6y (x : Ls) (hl : x.l.length ≤ 210) (hL : Loops Try.prog 0 (loopN Try.prog 6 0) ((I6 x 0).as 23) (.exit 0) ((I6 x x.l.length).as 23)) : FnOK Try.prog 6 ([.d (lsD x)]) ([]) (.d (.bool true)) ([]) := by
  refine fnOK_wp (p := (D.bool (decide ((↑(List.map pkD x.l).length : Int) > (210 : Int))) = D.bool false) ∧ ((AV.ptr (1008 : Nat) (0 : Nat) = AV.ptr (1008 : Nat) (0 : Nat)) ∧ ((AV.d (D.int IntKind.i64 (0 : Int)) = AV.d (D.int IntKind.i64 (0 : Int))) ∧ ((Ob.box [AV.d (D.sl (List.map pkD x.l)), AV.d (D.int IntKind.i64 x.s), AV.d (D.int IntKind.i64 x.c)] = Ob.box [AV.d (D.sl (List.map pkD x.l)), AV.d (D.int IntKind.i64 x.s), AV.d (D.int IntKind.i64 x.c)]) ∧ ((LoopsS Try.prog (0 : Nat) (loopN Try.prog (6 : Nat) (0 : Nat)) (I6 x (0 : Nat)) (Exit.exit (0 : Nat)) (I6 x x.l.length) (23 : Nat)) ∧ ((AV.d (D.bool true) = AV.d (D.bool true)) ∧ (True))))))) (h := {H := [(1, [(3, .val (.bool false))])]}) (subs := [⟨[], [], I6 x 0, .exit 0, I6 x x.l.length⟩]) (ws := []) (ρ := []) (by kernel_rfl) ?_
  simp only [List.length_map]
  repeat' (first | with_reducible exact True.intro | with_reducible refine And.intro ?_ ?_ | with_reducible refine condP_dec (fun _ => ?_) (fun _ => ?_) | with_reducible refine condP_eq (fun _ => ?_) (fun _ => ?_) | with_reducible refine condP_ne (fun _ => ?_) (fun _ => ?_) | with_reducible refine condP_not (condP_dec (fun _ => ?_) (fun _ => ?_)) | with_reducible refine condP_not (condP_eq (fun _ => ?_) (fun _ => ?_)) | with_reducible refine condP_not (condP_intro (fun _ => ?_) (fun _ => ?_)) | with_reducible refine condP_intro (fun _ => ?_) (fun _ => ?_))
  all_goals first | exact hL | rfl | exact dno (by omega) | skip

set_option maxRecDepth 100000 in
set_option maxHeartbeats 1000000 in
theorem few6m (x : Ls) (hl : x.l.length ≤ 210) (hL : Loops Try.prog 0 (loopN Try.prog 6 0) ((I6 x 0).as 23) .ret (O6.as 23)) : FnOK Try.prog 6 ([.d (lsD x)]) ([]) (.d (.bool false)) ([]) := by
  refine fnOK_wp (p := (D.bool (decide ((↑(List.map pkD x.l).length : Int) > (210 : Int))) = D.bool false) ∧ ((AV.ptr (1008 : Nat) (0 : Nat) = AV.ptr (1008 : Nat) (0 : Nat)) ∧ ((AV.d (D.int IntKind.i64 (0 : Int)) = AV.d (D.int IntKind.i64 (0 : Int))) ∧ ((Ob.box [AV.d (D.sl (List.map pkD x.l)), AV.d (D.int IntKind.i64 x.s), AV.d (D.int IntKind.i64 x.c)] = Ob.box [AV.d (D.sl (List.map pkD x.l)), AV.d (D.int IntKind.i64 x.s), AV.d (D.int IntKind.i64 x.c)]) ∧ ((LoopsS Try.prog (0 : Nat) (loopN Try.prog (6 : Nat) (0 : Nat)) (I6 x (0 : Nat)) Exit.ret O6 (23 : Nat)) ∧ ((AV.d (D.bool false) = AV.d (D.bool false)) ∧ (True))))))) (h := {H := [(1, [(3, .val (.bool false))])]}) (subs := [⟨[], [], I6 x 0, .ret, O6⟩]) (ws := []) (ρ := []) (by kernel_rfl) ?_
  simp only [List.length_map]
  repeat' (first | with_reducible exact True.intro | with_reducible refine And.intro ?_ ?_ | with_reducible refine condP_dec (fun _ => ?_) (fun _ => ?_) | with_reducible refine condP_eq (fun _ => ?_) (fun _ => ?_) | with_reducible refine condP_ne (fun _ => ?_) (fun _ => ?_) | with_reducible refine condP_not (condP_dec (fun _ => ?_) (fun _ => ?_)) | with_reducible refine condP_not (condP_eq (fun _ => ?_) (fun _ => ?_)) | with_reducible refine condP_not (condP_intro (fun _ => ?_) (fun _ => ?_)) | with_reducible refine condP_intro (fun _ => ?_) (fun _ => ?_))
  all_goals first | exact hL | rfl | exact dno (by omega) | skip

set_option maxRecDepth 100000 in
set_option maxHeartbeats 1000000 in
theorem few6n (x : Ls) (hl : ¬x.l.length ≤ 210) : FnOK Try.prog 6 ([.d (lsD x)]) ([]) (.d (.bool false)) ([]) := by
  refine fnOK_wp (p := (D.bool (decide ((↑(List.map pkD x.l).length : Int) > (210 : Int))) = D.bool true) ∧ ((AV.d (D.bool false) = AV.d (D.bool false)) ∧ (True))) (h := {H := [(1, [(3, .val (.bool true))])]}) (subs := []) (ws := []) (ρ := []) (by kernel_rfl) ?_
  simp only [List.length_map]
  repeat' (first | with_reducible exact True.intro | with_reducible refine And.intro ?_ ?_ | with_reducible refine condP_dec (fun _ => ?_) (fun _ => ?_) | with_reducible refine condP_eq (fun _ => ?_) (fun _ => ?_) | with_reducible refine condP_ne (fun _ => ?_) (fun _ => ?_) | with_reducible refine condP_not (condP_dec (fun _ => ?_) (fun _ => ?_)) | with_reducible refine condP_not (condP_eq (fun _ => ?_) (fun _ => ?_)) | with_reducible refine condP_not (condP_intro (fun _ => ?_) (fun _ => ?_)) | with_reducible refine condP_intro (fun _ => ?_) (fun _ => ?_))
  all_goals first | rfl | exact dyes (by omega) | skip

theorem few6 (x : Ls) : (x.l.length ≤ 210 ∧ (∀ y ∈ x.l, y.d.length ≤ 200) ∧ FnOK Try.prog 6 [.d (lsD x)] [] (.d (.bool true)) []) ∨ FnOK Try.prog 6 [.d (lsD x)] [] (.d (.bool false)) [] := by
  by_cases hl : x.l.length ≤ 210
  · rcases all_or Sm x.l with h | ⟨m, y, h1, h2, h3⟩
    · exact .inl ⟨hl, h, few6y x hl (loops_n (I := fun j => (I6 x j).as 23) (by simp) x.l.length 0 (by omega) (fun j _ hj => r6 x hl j x.l[j] (get_of hj) (h _ (List.getElem_mem hj))) (q6 x))⟩
    · have hm := get_lt h1
      exact .inr (few6m x hl (loops_n (I := fun j => (I6 x j).as 23) (by simp) m 0 (by omega) (fun j _ hj => r6 x hl j (x.l[j]'(by omega)) (get_of _) (h3 j _ hj (get_of _))) (e6 x hl m y h1 h2)))
  · exact .inr (few6n x hl)
end Go.Proofs.Ytoagghehabceaaa
