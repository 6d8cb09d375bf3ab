/-
laws 18: ArenaBack. No condition beyond the statement's own.
-/
import Derived.Test.YtgdifegembfjoaaS9
set_option linter.unusedSimpArgs false
set_option linter.unusedVariables false
namespace Go.Proofs.Ytgdifegembfjoaa
open Sx Go.RowKit

def u8D (l : List Int) : List D := l.map (D.int .u8)
def tkB (c : Int) : Bool := decide (c.tmod 10 < 6)
def atI (c : Int) : Nat := (c.toNat / 10) % 24
theorem at_of {c : Int} (h0 : 0 ≤ c) (h1 : c < 256) : (IntKind.i64.wrap (IntKind.u8.wrap (c.tdiv 10))).tmod 24 = (atI c : Int) := by
  unfold atI
  have e : IntKind.u8.wrap (c.tdiv 10) = c / 10 := by rw [Int.tdiv_eq_ediv_of_nonneg h0, IntKind.wrap_u8]; omega
  have e2 : IntKind.i64.wrap (c / 10) = c / 10 := by rw [IntKind.wrap_i64]; omega
  rw [e, e2, Int.tmod_eq_emod_of_nonneg (by omega)]
  omega
def bStep (s : Ar) (i : Nat) (c : Int) : Ar := if tkB c = true then (aTake s i).1 else (aGive s (atI c)).1
def bRun (l : List Int) : Nat → Ar
  | 0 => ⟨[], -1, 0⟩
  | j + 1 => match l[j]? with | some c => bStep (bRun l j) j c | none => bRun l j
theorem bStep_ok {s : Ar} {sp : List Int} (h : Ok s sp) (i : Nat) (c : Int) : ∃ sp', Ok (bStep s i c) sp' := by
  unfold bStep
  split
  · by_cases hu : s.u < 64
    · obtain ⟨A, n, e, -, -, hA, -⟩ := ok_take h i hu
      rw [e]; exact ⟨_, hA⟩
    · rw [(take_full h i hu).1]; exact ⟨_, h⟩
  · cases hv : isLive s (atI c)
    · rw [give_no h _ hv]; exact ⟨_, h⟩
    · obtain ⟨A, e, hA, -⟩ := ok_give h _ hv
      rw [e]; exact ⟨_, hA⟩
theorem bRun_ok (l : List Int) : ∀ j, ∃ sp, Ok (bRun l j) sp
  | 0 => ⟨_, ok_new⟩
  | j + 1 => by
    obtain ⟨sp, h⟩ := bRun_ok l j
    unfold bRun
    cases l[j]? with
    | none => exact ⟨sp, h⟩
    | some c => exact bStep_ok h j c
def I6 (l : List Int) (v : Int) (s : Ar) (j : Nat) : St := ⟨[(0, .d (.sl (u8D l))), (1, .d (.int .i64 v)), (5, .ptr 0 0), (6, .d (.int .i64 j))], [(0, arB s)]⟩
set_option maxRecDepth 100000 in
set_option maxHeartbeats 1000000 in
theorem r6t (l : List Int) (hl : l.length ≤ 200) (v : Int) (s A : Ar) (hs : s.l.length ≤ 64) (j : Nat) (c : Int) (hn : l[j]? = some c) (c0 : 0 ≤ c) (c1 : c < 256) (ht : tkB c = true) (n e : Int) (hA : aTake s j = (A, n, e)) : Runs Try.prog 0 (loopN Try.prog 6 0) (St.as (I6 l v s j) 134) (.normal) (St.as (I6 l v A (j+1)) 134) := by
  refine round_wp (p := condP (decide ((↑j : Int) < (↑(u8D l).length : Int))) (((0 : Int) ≤ (↑j : Int)) ∧ (((u8D l)[(↑j : Int).toNat]? = some (D.int IntKind.u8 c)) ∧ (((10 : Int) ≠ (0 : Int)) ∧ ((D.bool (decide (c.tmod (10 : Int) < (6 : Int))) = D.bool true) ∧ ((FnOK Try.prog (9 : Nat) [AV.d (D.agg [D.sl (List.map ceD s.l), D.int IntKind.i64 s.f, D.int IntKind.i64 s.u]), AV.d (D.int IntKind.i64 (↑j : Int))] [] (AV.tup [AV.d (D.agg [D.sl (List.map ceD A.l), D.int IntKind.i64 A.f, D.int IntKind.i64 A.u]), AV.d (D.int IntKind.i64 n), AV.d (D.int IntKind.i64 e)]) []) ∧ ((AV.d (D.sl (u8D l)) = AV.d (D.sl (u8D l))) ∧ ((AV.d (D.int IntKind.i64 v) = AV.d (D.int IntKind.i64 v)) ∧ ((AV.ptr (0 : Nat) (0 : Nat) = AV.ptr (0 : Nat) (0 : Nat)) ∧ ((AV.d (D.int IntKind.i64 (IntKind.i64.wrap ((↑j : Int) + (1 : Int)))) = AV.d (D.int IntKind.i64 (↑(j + (1 : Nat)) : Int))) ∧ ((Ob.box [AV.d (D.sl (List.map ceD A.l)), AV.d (D.int IntKind.i64 A.f), AV.d (D.int IntKind.i64 A.u)] = Ob.box [AV.d (D.sl (List.map ceD A.l)), AV.d (D.int IntKind.i64 A.f), AV.d (D.int IntKind.i64 A.u)]) ∧ (True))))))))))) (False)) (h := {els := [(26, .el (.int .u8 c))], H := [(7, [(5, .val (.bool true))])], G := [(9, gAns (.tup [.d (arD A), .d (.int .i64 n), .d (.int .i64 e)]))]}) (subs := []) (ws := []) (ρ := []) (by kernel_rfl) ?_
  have k := take9 s (by omega) j
  rw [hA] at k
  have hj := get_lt hn
  have hd : (u8D l)[((j : Int)).toNat]? = some (.int .u8 c) := by unfold u8D; exact el_map hn rfl
  have hln : (u8D l).length = l.length := List.length_map ..
  rw [inc_i64 (by omega)]
  refine condP_t (by rw [decide_eq_true_eq, hln]; omega) ?_
  repeat' (first | with_reducible exact True.intro | with_reducible refine And.intro ?_ ?_ | with_reducible refine condP_dec (fun _ => ?_) (fun _ => ?_) | with_reducible refine condP_eq (fun _ => ?_) (fun _ => ?_) | with_reducible refine condP_ne (fun _ => ?_) (fun _ => ?_) | with_reducible refine condP_not (condP_dec (fun _ => ?_) (fun _ => ?_)) | with_reducible refine condP_not (condP_eq (fun _ => ?_) (fun _ => ?_)) | with_reducible refine condP_not (condP_intro (fun _ => ?_) (fun _ => ?_)) | with_reducible refine condP_intro (fun _ => ?_) (fun _ => ?_))
  all_goals first | exact k | exact hd | rfl | omega | exact congrArg D.bool ht | skip

set_option maxRecDepth 100000 in
set_option maxHeartbeats 1000000 in
theorem r6g (l : List Int) (hl : l.length ≤ 200) (v : Int) (s A : Ar) (hs : s.l.length ≤ 64) (j : Nat) (c : Int) (hn : l[j]? = some c) (c0 : 0 ≤ c) (c1 : c < 256) (ht : tkB c = false) (e : Int) (hA : aGive s (atI c) = (A, e)) : Runs Try.prog 0 (loopN Try.prog 6 0) (St.as (I6 l v s j) 134) (.normal) (St.as (I6 l v A (j+1)) 134) := by
  refine round_wp (p := condP (decide ((↑j : Int) < (↑(u8D l).length : Int))) (((0 : Int) ≤ (↑j : Int)) ∧ (((u8D l)[(↑j : Int).toNat]? = some (D.int IntKind.u8 c)) ∧ (((10 : Int) ≠ (0 : Int)) ∧ ((D.bool (decide (c.tmod (10 : Int) < (6 : Int))) = D.bool false) ∧ (((0 : Int) ≤ (↑j : Int)) ∧ (((u8D l)[(↑j : Int).toNat]? = some (D.int IntKind.u8 c)) ∧ (((10 : Int) ≠ (0 : Int)) ∧ (((24 : Int) ≠ (0 : Int)) ∧ ((FnOK Try.prog (11 : Nat) [AV.d (D.agg [D.sl (List.map ceD s.l), D.int IntKind.i64 s.f, D.int IntKind.i64 s.u]), AV.d (D.int IntKind.i64 ((IntKind.i64.wrap (IntKind.u8.wrap (c.tdiv (10 : Int)))).tmod (24 : Int)))] [] (AV.tup [AV.d (D.agg [D.sl (List.map ceD A.l), D.int IntKind.i64 A.f, D.int IntKind.i64 A.u]), AV.d (D.int IntKind.i64 e)]) []) ∧ ((AV.d (D.sl (u8D l)) = AV.d (D.sl (u8D l))) ∧ ((AV.d (D.int IntKind.i64 v) = AV.d (D.int IntKind.i64 v)) ∧ ((AV.ptr (0 : Nat) (0 : Nat) = AV.ptr (0 : Nat) (0 : Nat)) ∧ ((AV.d (D.int IntKind.i64 (IntKind.i64.wrap ((↑j : Int) + (1 : Int)))) = AV.d (D.int IntKind.i64 (↑(j + (1 : Nat)) : Int))) ∧ ((Ob.box [AV.d (D.sl (List.map ceD A.l)), AV.d (D.int IntKind.i64 A.f), AV.d (D.int IntKind.i64 A.u)] = Ob.box [AV.d (D.sl (List.map ceD A.l)), AV.d (D.int IntKind.i64 A.f), AV.d (D.int IntKind.i64 A.u)]) ∧ (True))))))))))))))) (False)) (h := {els := [(26, .el (.int .u8 c)), (42, .el (.int .u8 c)), (41, .el (.int .u8 c))], H := [(7, [(5, .val (.bool false))])], G := [(11, gAns (.tup [.d (arD A), .d (.int .i64 e)]))]}) (subs := []) (ws := []) (ρ := []) (by kernel_rfl) ?_
  have k := give11 s (by omega) (atI c)
  rw [hA] at k
  have ha := at_of c0 c1
  have hj := get_lt hn
  have hd : (u8D l)[((j : Int)).toNat]? = some (.int .u8 c) := by unfold u8D; exact el_map hn rfl
  have hln : (u8D l).length = l.length := List.length_map ..
  rw [inc_i64 (by omega)]
  refine condP_t (by rw [decide_eq_true_eq, hln]; omega) ?_
  simp only [ha]
  repeat' (first | with_reducible exact True.intro | with_reducible refine And.intro ?_ ?_ | with_reducible refine condP_dec (fun _ => ?_) (fun _ => ?_) | with_reducible refine condP_eq (fun _ => ?_) (fun _ => ?_) | with_reducible refine condP_ne (fun _ => ?_) (fun _ => ?_) | with_reducible refine condP_not (condP_dec (fun _ => ?_) (fun _ => ?_)) | with_reducible refine condP_not (condP_eq (fun _ => ?_) (fun _ => ?_)) | with_reducible refine condP_not (condP_intro (fun _ => ?_) (fun _ => ?_)) | with_reducible refine condP_intro (fun _ => ?_) (fun _ => ?_))
  all_goals first | exact k | exact hd | rfl | omega | exact congrArg D.bool ht | skip

set_option maxRecDepth 100000 in
set_option maxHeartbeats 1000000 in
theorem q6 (l : List Int) (v : Int) (s : Ar) : Runs Try.prog 0 (loopN Try.prog 6 0) (St.as (I6 l v s l.length) 134) (.exit 0) (St.as (I6 l v s l.length) 134) := by
  refine round_wp (p := condP (decide ((↑l.length : Int) < (↑(u8D l).length : Int))) (False) ((AV.d (D.sl (u8D l)) = AV.d (D.sl (u8D l))) ∧ ((AV.d (D.int IntKind.i64 v) = AV.d (D.int IntKind.i64 v)) ∧ ((AV.ptr (0 : Nat) (0 : Nat) = AV.ptr (0 : Nat) (0 : Nat)) ∧ ((AV.d (D.int IntKind.i64 (↑l.length : Int)) = AV.d (D.int IntKind.i64 (↑l.length : Int))) ∧ ((Ob.box [AV.d (D.sl (List.map ceD s.l)), AV.d (D.int IntKind.i64 s.f), AV.d (D.int IntKind.i64 s.u)] = Ob.box [AV.d (D.sl (List.map ceD s.l)), AV.d (D.int IntKind.i64 s.f), AV.d (D.int IntKind.i64 s.u)]) ∧ (True))))))) (h := {}) (subs := []) (ws := []) (ρ := []) (by kernel_rfl) ?_
  have hln : (u8D l).length = l.length := List.length_map ..
  rw [hln]
  repeat' (first | with_reducible exact True.intro | with_reducible refine And.intro ?_ ?_ | with_reducible refine condP_dec (fun _ => ?_) (fun _ => ?_) | with_reducible refine condP_eq (fun _ => ?_) (fun _ => ?_) | with_reducible refine condP_ne (fun _ => ?_) (fun _ => ?_) | with_reducible refine condP_not (condP_dec (fun _ => ?_) (fun _ => ?_)) | with_reducible refine condP_not (condP_eq (fun _ => ?_) (fun _ => ?_)) | with_reducible refine condP_not (condP_intro (fun _ => ?_) (fun _ => ?_)) | with_reducible refine condP_intro (fun _ => ?_) (fun _ => ?_))
  all_goals (try simp only [List.length_map, AV.d.injEq, D.int.injEq, D.bool.injEq, D.str.injEq, D.sl.injEq, true_and, and_true, decide_eq_true_eq, decide_eq_false_iff_not, decide_eq_decide])
  all_goals (try simp only [List.length_map] at *)
  all_goals first | rfl | omega

theorem l6 (l : List Int) (hl : l.length ≤ 200) (hc : ∀ c ∈ l, 0 ≤ c ∧ c < 256) (v : Int) : Loops Try.prog 0 (loopN Try.prog 6 0) ((I6 l v ⟨[], -1, 0⟩ 0).as 134) (.exit 0) ((I6 l v (bRun l l.length) l.length).as 134) :=
  loops_n (I := fun j => (I6 l v (bRun l j) j).as 134) (by simp) l.length 0 (by omega) (fun j _ hj => by
    have hn := get_of hj
    have hb := hc _ (List.getElem_mem hj)
    obtain ⟨sp, ho⟩ := bRun_ok l j
    have e : bRun l (j + 1) = bStep (bRun l j) j l[j] := by rw [bRun, hn]
    show Runs _ _ _ _ _ ((I6 l v (bRun l (j + 1)) (j + 1)).as _)
    rw [e]
    unfold bStep
    cases ht : tkB l[j]
    · rw [if_neg (by simp)]
      exact r6g l hl v _ _ ho.len j _ hn hb.1 hb.2 ht _ rfl
    · rw [if_pos rfl]
      exact r6t l hl v _ _ ho.len j _ hn hb.1 hb.2 ht _ _ rfl) (q6 l v _)
set_option maxRecDepth 100000 in
set_option maxHeartbeats 1000000 in
theorem back6n (l : List Int) (hl : ¬l.length ≤ 200) (v : Int) : FnOK Try.prog 6 ([.d (.sl (u8D l)), .d (.int .i64 v)]) ([]) (.d (.bool true)) ([]) := by
  refine fnOK_wp (p := (D.bool (decide ((↑(u8D l).length : Int) > (200 : Int))) = D.bool true) ∧ ((FnOK Try.prog (7 : Nat) [] [] (AV.d (D.bool true)) []) ∧ ((AV.d (D.bool true) = AV.d (D.bool true)) ∧ (True)))) (h := {H := [(1, [(2, .val (.bool true))])], G := [(7, gYes)]}) (subs := []) (ws := []) (ρ := []) (by kernel_rfl) ?_
  have hln : (u8D l).length = l.length := List.length_map ..
  repeat' (first | with_reducible exact True.intro | with_reducible refine And.intro ?_ ?_ | with_reducible refine condP_dec (fun _ => ?_) (fun _ => ?_) | with_reducible refine condP_eq (fun _ => ?_) (fun _ => ?_) | with_reducible refine condP_ne (fun _ => ?_) (fun _ => ?_) | with_reducible refine condP_not (condP_dec (fun _ => ?_) (fun _ => ?_)) | with_reducible refine condP_not (condP_eq (fun _ => ?_) (fun _ => ?_)) | with_reducible refine condP_not (condP_intro (fun _ => ?_) (fun _ => ?_)) | with_reducible refine condP_intro (fun _ => ?_) (fun _ => ?_))
  all_goals first | exact aw7 | rfl | exact dyes (by rw [hln]; omega) | skip

set_option maxRecDepth 100000 in
set_option maxHeartbeats 1000000 in
theorem back6f (l : List Int) (hl : l.length ≤ 200) (v : Int) (s : Ar) (hs : s.l.length ≤ 64) (hL : Loops Try.prog 0 (loopN Try.prog 6 0) ((I6 l v ⟨[], -1, 0⟩ 0).as 134) (.exit 0) ((I6 l v s l.length).as 134)) (hA : aTake s v = (s, 0, 7)) (hu : s.u = 64) : FnOK Try.prog 6 ([.d (.sl (u8D l)), .d (.int .i64 v)]) ([]) (.d (.bool true)) ([]) := by
  refine fnOK_wp (p := (D.bool (decide ((↑(u8D l).length : Int) > (200 : Int))) = D.bool false) ∧ ((FnOK Try.prog (27 : Nat) [] [] (AV.d (D.agg [D.sl [], D.int IntKind.i64 (-1 : Int), D.int IntKind.i64 (0 : Int)])) []) ∧ ((AV.d (D.sl (u8D l)) = AV.d (D.sl (u8D l))) ∧ ((AV.d (D.int IntKind.i64 v) = AV.d (D.int IntKind.i64 v)) ∧ ((AV.ptr (1040 : Nat) (0 : Nat) = AV.ptr (1040 : Nat) (0 : Nat)) ∧ ((AV.d (D.int IntKind.i64 (0 : Int)) = AV.d (D.int IntKind.i64 (0 : Int))) ∧ ((Ob.box [AV.d (D.sl []), AV.d (D.int IntKind.i64 (-1 : Int)), AV.d (D.int IntKind.i64 (0 : Int))] = Ob.box [AV.d (D.sl []), AV.d (D.int IntKind.i64 (-1 : Int)), AV.d (D.int IntKind.i64 (0 : Int))]) ∧ ((LoopsS Try.prog (0 : Nat) (loopN Try.prog (6 : Nat) (0 : Nat)) (I6 l v (Ar.mk [] (-1 : Int) (0 : Int)) (0 : Nat)) (Exit.exit (0 : Nat)) (I6 l v s l.length) (134 : Nat)) ∧ ((FnOK Try.prog (9 : Nat) [AV.d (D.agg [D.sl (List.map ceD s.l), D.int IntKind.i64 s.f, D.int IntKind.i64 s.u]), AV.d (D.int IntKind.i64 v)] [] (AV.tup [AV.d (D.agg [D.sl (List.map ceD s.l), D.int IntKind.i64 s.f, D.int IntKind.i64 s.u]), AV.d (D.int IntKind.i64 (0 : Int)), AV.d (D.int IntKind.i64 (7 : Int))]) []) ∧ ((D.bool true = D.bool true) ∧ ((D.bool (s.u == (64 : Int)) = D.bool true) ∧ ((FnOK Try.prog (26 : Nat) [AV.d (D.agg [D.sl (List.map ceD s.l), D.int IntKind.i64 s.f, D.int IntKind.i64 s.u]), AV.d (D.agg [D.sl (List.map ceD s.l), D.int IntKind.i64 s.f, D.int IntKind.i64 s.u])] [] (AV.d (D.bool true)) []) ∧ ((D.bool true = D.bool true) ∧ ((FnOK Try.prog (7 : Nat) [] [] (AV.d (D.bool true)) []) ∧ ((AV.d (D.bool true) = AV.d (D.bool true)) ∧ (True)))))))))))))))) (h := {chain := true, H := [(1, [(2, .val (.bool false))])], G := [(27, gAns (.d (arD ⟨[], -1, 0⟩))), (9, gAns (.tup [.d (arD s), .d (.int .i64 0), .d (.int .i64 7)])), (26, gYes), (7, gYes)]}) (subs := [⟨[], [], I6 l v ⟨[], -1, 0⟩ 0, .exit 0, I6 l v s l.length⟩]) (ws := []) (ρ := []) (by kernel_rfl) ?_
  have hln : (u8D l).length = l.length := List.length_map ..
  have k1 := take9 s (by omega) v
  rw [hA] at k1
  have k2 := same26 s s (by omega)
  rw [decide_eq_true rfl] at k2
  repeat' (first | with_reducible exact True.intro | with_reducible refine And.intro ?_ ?_ | with_reducible refine condP_dec (fun _ => ?_) (fun _ => ?_) | with_reducible refine condP_eq (fun _ => ?_) (fun _ => ?_) | with_reducible refine condP_ne (fun _ => ?_) (fun _ => ?_) | with_reducible refine condP_not (condP_dec (fun _ => ?_) (fun _ => ?_)) | with_reducible refine condP_not (condP_eq (fun _ => ?_) (fun _ => ?_)) | with_reducible refine condP_not (condP_intro (fun _ => ?_) (fun _ => ?_)) | with_reducible refine condP_intro (fun _ => ?_) (fun _ => ?_))
  all_goals first | exact hL | exact k1 | exact k2 | exact new27 | exact aw7 | rfl | exact dno (by rw [hln]; omega) | (refine congrArg D.bool ?_; simp_all; done) | skip

set_option maxRecDepth 100000 in
set_option maxHeartbeats 1000000 in
theorem back6y (l : List Int) (hl : l.length ≤ 200) (v : Int) (s : Ar) (hs : s.l.length ≤ 64) (hL : Loops Try.prog 0 (loopN Try.prog 6 0) ((I6 l v ⟨[], -1, 0⟩ 0).as 134) (.exit 0) ((I6 l v s l.length).as 134)) (A B : Ar) (n : Int) (hAl : A.l.length ≤ 65) (hBl : B.l.length ≤ 65) (hA : aTake s v = (A, n, 0)) (hB : aGive A n = (B, 0)) (hG : aGet A n = (v, true)) (q : Bool) (hq : decide (B = s) = q) (S L : List Int) (hS : aSp s = S) (hLv : aLv B = L) (hSq : decide ((S.length : Int) > 0) = q) (hLL : (L.length : Int) = s.u) (hu : A.u = s.u + 1) (hu2 : B.u = s.u) (u0 : 0 ≤ s.u) (u1 : s.u ≤ 64) : FnOK Try.prog 6 ([.d (.sl (u8D l)), .d (.int .i64 v)]) ([]) (.d (.bool true)) ([]) := by
  refine fnOK_wp (p := (D.bool (decide ((↑(u8D l).length : Int) > (200 : Int))) = D.bool false) ∧ ((FnOK Try.prog (27 : Nat) [] [] (AV.d (D.agg [D.sl [], D.int IntKind.i64 (-1 : Int), D.int IntKind.i64 (0 : Int)])) []) ∧ ((AV.d (D.sl (u8D l)) = AV.d (D.sl (u8D l))) ∧ ((AV.d (D.int IntKind.i64 v) = AV.d (D.int IntKind.i64 v)) ∧ ((AV.ptr (1040 : Nat) (0 : Nat) = AV.ptr (1040 : Nat) (0 : Nat)) ∧ ((AV.d (D.int IntKind.i64 (0 : Int)) = AV.d (D.int IntKind.i64 (0 : Int))) ∧ ((Ob.box [AV.d (D.sl []), AV.d (D.int IntKind.i64 (-1 : Int)), AV.d (D.int IntKind.i64 (0 : Int))] = Ob.box [AV.d (D.sl []), AV.d (D.int IntKind.i64 (-1 : Int)), AV.d (D.int IntKind.i64 (0 : Int))]) ∧ ((LoopsS Try.prog (0 : Nat) (loopN Try.prog (6 : Nat) (0 : Nat)) (I6 l v (Ar.mk [] (-1 : Int) (0 : Int)) (0 : Nat)) (Exit.exit (0 : Nat)) (I6 l v s l.length) (134 : Nat)) ∧ ((FnOK Try.prog (9 : Nat) [AV.d (D.agg [D.sl (List.map ceD s.l), D.int IntKind.i64 s.f, D.int IntKind.i64 s.u]), AV.d (D.int IntKind.i64 v)] [] (AV.tup [AV.d (D.agg [D.sl (List.map ceD A.l), D.int IntKind.i64 A.f, D.int IntKind.i64 A.u]), AV.d (D.int IntKind.i64 n), AV.d (D.int IntKind.i64 (0 : Int))]) []) ∧ ((FnOK Try.prog (11 : Nat) [AV.d (D.agg [D.sl (List.map ceD A.l), D.int IntKind.i64 A.f, D.int IntKind.i64 A.u]), AV.d (D.int IntKind.i64 n)] [] (AV.tup [AV.d (D.agg [D.sl (List.map ceD B.l), D.int IntKind.i64 B.f, D.int IntKind.i64 B.u]), AV.d (D.int IntKind.i64 (0 : Int))]) []) ∧ ((FnOK Try.prog (17 : Nat) [AV.d (D.agg [D.sl (List.map ceD A.l), D.int IntKind.i64 A.f, D.int IntKind.i64 A.u]), AV.d (D.int IntKind.i64 n)] [] (AV.tup [AV.d (D.int IntKind.i64 v), AV.d (D.bool true)]) []) ∧ ((FnOK Try.prog (24 : Nat) [AV.d (D.agg [D.sl (List.map ceD s.l), D.int IntKind.i64 s.f, D.int IntKind.i64 s.u])] [] (AV.d (D.sl (inD S))) []) ∧ ((D.bool true = D.bool true) ∧ ((FnOK Try.prog (26 : Nat) [AV.d (D.agg [D.sl (List.map ceD B.l), D.int IntKind.i64 B.f, D.int IntKind.i64 B.u]), AV.d (D.agg [D.sl (List.map ceD s.l), D.int IntKind.i64 s.f, D.int IntKind.i64 s.u])] [] (AV.d (D.bool q)) []) ∧ ((D.bool (q == decide ((↑(inD S).length : Int) > (0 : Int))) = D.bool true) ∧ ((D.bool (v == v) = D.bool true) ∧ ((D.bool true = D.bool true) ∧ ((D.bool (A.u == IntKind.i64.wrap (s.u + (1 : Int))) = D.bool true) ∧ ((D.bool (B.u == s.u) = D.bool true) ∧ ((FnOK Try.prog (22 : Nat) [AV.d (D.agg [D.sl (List.map ceD B.l), D.int IntKind.i64 B.f, D.int IntKind.i64 B.u])] [] (AV.d (D.sl (inD L))) []) ∧ ((D.bool ((↑(inD L).length : Int) == s.u) = D.bool true) ∧ ((FnOK Try.prog (7 : Nat) [] [] (AV.d (D.bool true)) []) ∧ ((AV.d (D.bool true) = AV.d (D.bool true)) ∧ (True)))))))))))))))))))))))) (h := {chain := true, H := [(1, [(2, .val (.bool false))])], G := [(27, gAns (.d (arD ⟨[], -1, 0⟩))), (9, gAns (.tup [.d (arD A), .d (.int .i64 n), .d (.int .i64 0)])), (11, gAns (.tup [.d (arD B), .d (.int .i64 0)])), (17, gAns (.tup [.d (.int .i64 v), .d (.bool true)])), (24, gAns (.d (.sl (inD S)))), (22, gAns (.d (.sl (inD L)))), (26, gAns (.d (.bool q))), (7, gYes)]}) (subs := [⟨[], [], I6 l v ⟨[], -1, 0⟩ 0, .exit 0, I6 l v s l.length⟩]) (ws := []) (ρ := []) (by kernel_rfl) ?_
  have hln : (u8D l).length = l.length := List.length_map ..
  have k1 := take9 s (by omega) v
  rw [hA] at k1
  have k2 := same26 B s (by omega)
  rw [hq] at k2
  have k3 := give11 A (by omega) n
  rw [hB] at k3
  have k4 := get17 A (by omega) n
  rw [hG] at k4
  have k5 := spare24 s (by omega)
  rw [hS] at k5
  have k6 := live22 B (by omega)
  rw [hLv] at k6
  have hw : IntKind.i64.wrap (s.u + 1) = s.u + 1 := by rw [IntKind.wrap_i64]; omega
  simp only [inD_len, hw, hSq]
  repeat' (first | with_reducible exact True.intro | with_reducible refine And.intro ?_ ?_ | with_reducible refine condP_dec (fun _ => ?_) (fun _ => ?_) | with_reducible refine condP_eq (fun _ => ?_) (fun _ => ?_) | with_reducible refine condP_ne (fun _ => ?_) (fun _ => ?_) | with_reducible refine condP_not (condP_dec (fun _ => ?_) (fun _ => ?_)) | with_reducible refine condP_not (condP_eq (fun _ => ?_) (fun _ => ?_)) | with_reducible refine condP_not (condP_intro (fun _ => ?_) (fun _ => ?_)) | with_reducible refine condP_intro (fun _ => ?_) (fun _ => ?_))
  all_goals first | exact hL | exact k1 | exact k2 | exact k3 | exact k4 | exact k5 | exact k6 | exact new27 | exact aw7 | rfl | exact dno (by rw [hln]; omega) | (refine congrArg D.bool ?_; simp_all; done) | skip

theorem u8s_of (x0 : D) (s0 : ∃ ds, CK.hasL [.sl false [.int .u8]] ds ∧ (if false = true then x0 = .agg ds else ds = [x0])) : ∃ l : List Int, x0 = .sl (u8D l) ∧ ∀ c ∈ l, 0 ≤ c ∧ c < 256 := by
  obtain ⟨l, rfl, -, h⟩ := has_slOf (D.int .u8) (fun c => 0 ≤ c ∧ c < 256) (ck1 s0) (fun y hy => by obtain ⟨n, rfl, a, b⟩ := has_u8 (ck1 hy); exact ⟨n, rfl, a, b⟩)
  exact ⟨l, rfl, h⟩
theorem arenaBack_ok (x0 : D) (s0 : ∃ ds, CK.hasL [.sl false [.int .u8]] ds ∧ (if false then x0 = .agg ds else ds = [x0])) (x1 : D) (s1 : ∃ ds, CK.hasL [.int .i64] ds ∧ (if false then x1 = .agg ds else ds = [x1])) :
    FnOK Try.prog 6 [.d x0, .d x1] [] (.d (.bool true)) [] := by
  obtain ⟨l, rfl, hc⟩ := u8s_of x0 s0
  obtain ⟨v, rfl, -, -⟩ := in_of x1 s1
  by_cases hl : l.length ≤ 200
  · have hL := l6 l hl hc v
    obtain ⟨sp, ho⟩ := bRun_ok l l.length
    have hlen := ho.len
    have hU := chk_u (chk_ok.2 ⟨sp, ho⟩)
    generalize bRun l l.length = s at *
    by_cases hu : s.u < 64
    · obtain ⟨A, n, e, hn, -, hA, hAu, hup, -, hAl, hnil, hcons⟩ := ok_take ho v hu
      have hg : aGet A n = (v, true) := by rw [get_ok (chk_ok.2 ⟨_, hA⟩), hup.val', hup.live']; rfl
      have hAl' := hA.len
      cases sp with
      | nil =>
        obtain ⟨B, eB, hB, -, hBu, -, hBl⟩ := ok_give hA n hup.live'
        have hnl := hnil rfl
        have hll := live_len hB
        refine back6y l hl v s hlen hL A B n (by omega) (by omega) e eB hg false (decide_eq_false fun g => by rw [g] at hBl; omega) [] _ (spare_ok ho) rfl rfl (by omega) hAu (by omega) hU.1 (by omega)
      | cons x r =>
        have eB := hcons (by simp)
        exact back6y l hl v s hlen hL A s n (by omega) (by omega) e eB hg true (decide_eq_true rfl) (x :: r) _ (spare_ok ho) rfl (decide_eq_true (by (simp <;> omega))) (live_len ho) hAu rfl hU.1 (by omega)
    · obtain ⟨e, hu64⟩ := take_full ho v hu
      exact back6f l hl v s hlen hL e hu64
  · exact back6n l hl v
end Go.Proofs.Ytgdifegembfjoaa
