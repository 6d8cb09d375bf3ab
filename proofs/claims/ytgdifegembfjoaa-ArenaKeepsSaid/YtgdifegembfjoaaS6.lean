/-
laws 18: what is told of cells; cells over and back.
-/
import Derived.Test.YtgdifegembfjoaaS5
set_option linter.unusedSimpArgs false
set_option linter.unusedVariables false
namespace Go.Proofs.Ytgdifegembfjoaa
open Sx Go.RowKit

/-! ### Get -/
set_option maxRecDepth 100000 in
set_option maxHeartbeats 1000000 in
theorem get17n (s : Ar) (hl : s.l.length < 1000000) (a : Int) (h0 : isLive s a = false) : FnOK Try.prog 17 ([.d (arD s), .d (.int .i64 a)]) ([]) (.tup [.d (.int .i64 0), .d (.bool false)]) ([]) := by
  refine fnOK_wp (p := (FnOK Try.prog (31 : Nat) [AV.d (D.agg [D.sl (List.map ceD s.l), D.int IntKind.i64 s.f, D.int IntKind.i64 s.u]), AV.d (D.int IntKind.i64 a)] [] (AV.d (D.bool false)) []) ∧ ((D.bool true = D.bool true) ∧ ((AV.tup [AV.d (D.int IntKind.i64 (0 : Int)), AV.d (D.bool false)] = AV.tup [AV.d (D.int IntKind.i64 (0 : Int)), AV.d (D.bool false)]) ∧ (True)))) (h := {G := [(31, gAns (.d (.bool false)))], H := [(1, [(4, .val (.bool true))])]}) (subs := []) (ws := []) (ρ := []) (by kernel_rfl) ?_
  have k1 := chk19 s hl
  have k2 := live31 s a
  rw [h0] at k2
  repeat' (first | with_reducible exact True.intro | with_reducible refine And.intro ?_ ?_ | with_reducible refine condP_dec (fun _ => ?_) (fun _ => ?_) | with_reducible refine condP_eq (fun _ => ?_) (fun _ => ?_) | with_reducible refine condP_ne (fun _ => ?_) (fun _ => ?_) | with_reducible refine condP_not (condP_dec (fun _ => ?_) (fun _ => ?_)) | with_reducible refine condP_not (condP_eq (fun _ => ?_) (fun _ => ?_)) | with_reducible refine condP_not (condP_intro (fun _ => ?_) (fun _ => ?_)) | with_reducible refine condP_intro (fun _ => ?_) (fun _ => ?_))
  all_goals first | exact k1 | exact k2 | rfl | exact el_map hn rfl | omega | exact dyes (by omega) | exact dno (by omega) | (refine congrArg D.bool ?_; simp_all; done) | (exfalso; simp_all; done) | skip

set_option maxRecDepth 100000 in
set_option maxHeartbeats 1000000 in
theorem get17e (s : Ar) (hl : s.l.length < 1000000) (a : Int) (h0 : isLive s a = true) (e : Int) (he : aChk s = e) (h1 : e ≠ 0) : FnOK Try.prog 17 ([.d (arD s), .d (.int .i64 a)]) ([]) (.tup [.d (.int .i64 0), .d (.bool false)]) ([]) := by
  refine fnOK_wp (p := (FnOK Try.prog (31 : Nat) [AV.d (D.agg [D.sl (List.map ceD s.l), D.int IntKind.i64 s.f, D.int IntKind.i64 s.u]), AV.d (D.int IntKind.i64 a)] [] (AV.d (D.bool true)) []) ∧ ((D.bool false = D.bool false) ∧ ((FnOK Try.prog (19 : Nat) [AV.d (D.agg [D.sl (List.map ceD s.l), D.int IntKind.i64 s.f, D.int IntKind.i64 s.u])] [] (AV.d (D.int IntKind.i64 e)) []) ∧ ((D.bool (e != (0 : Int)) = D.bool true) ∧ ((AV.tup [AV.d (D.int IntKind.i64 (0 : Int)), AV.d (D.bool false)] = AV.tup [AV.d (D.int IntKind.i64 (0 : Int)), AV.d (D.bool false)]) ∧ (True)))))) (h := {G := [(31, gAns (.d (.bool true))), (19, gAns (.d (.int .i64 e)))], H := [(1, [(4, .val (.bool false)), (7, .val (.bool true))])]}) (subs := []) (ws := []) (ρ := []) (by kernel_rfl) ?_
  have k1 := chk19 s hl
  rw [he] at k1
  have k2 := live31 s a
  rw [h0] at k2
  repeat' (first | with_reducible exact True.intro | with_reducible refine And.intro ?_ ?_ | with_reducible refine condP_dec (fun _ => ?_) (fun _ => ?_) | with_reducible refine condP_eq (fun _ => ?_) (fun _ => ?_) | with_reducible refine condP_ne (fun _ => ?_) (fun _ => ?_) | with_reducible refine condP_not (condP_dec (fun _ => ?_) (fun _ => ?_)) | with_reducible refine condP_not (condP_eq (fun _ => ?_) (fun _ => ?_)) | with_reducible refine condP_not (condP_intro (fun _ => ?_) (fun _ => ?_)) | with_reducible refine condP_intro (fun _ => ?_) (fun _ => ?_))
  all_goals first | exact k1 | exact k2 | rfl | exact el_map hn rfl | omega | exact dyes (by omega) | exact dno (by omega) | (refine congrArg D.bool ?_; simp_all; done) | (exfalso; simp_all; done) | skip

set_option maxRecDepth 100000 in
set_option maxHeartbeats 1000000 in
theorem get17y (s : Ar) (hl : s.l.length < 1000000) (n : Nat) (c : Ce) (hn : s.l[n]? = some c) (h0 : c.v = true) (he : aChk s = 0) : FnOK Try.prog 17 ([.d (arD s), .d (.int .i64 n)]) ([]) (.tup [.d (.int .i64 c.x), .d (.bool true)]) ([]) := by
  refine fnOK_wp (p := (FnOK Try.prog (31 : Nat) [AV.d (D.agg [D.sl (List.map ceD s.l), D.int IntKind.i64 s.f, D.int IntKind.i64 s.u]), AV.d (D.int IntKind.i64 (↑n : Int))] [] (AV.d (D.bool true)) []) ∧ ((D.bool false = D.bool false) ∧ ((FnOK Try.prog (19 : Nat) [AV.d (D.agg [D.sl (List.map ceD s.l), D.int IntKind.i64 s.f, D.int IntKind.i64 s.u])] [] (AV.d (D.int IntKind.i64 (0 : Int))) []) ∧ (((0 : Int) ≤ (↑n : Int)) ∧ (((List.map ceD s.l)[(↑n : Int).toNat]? = some (D.agg [D.bool c.v, D.int IntKind.i64 c.x, D.int IntKind.i64 c.l])) ∧ ((AV.tup [AV.d (D.int IntKind.i64 c.x), AV.d (D.bool true)] = AV.tup [AV.d (D.int IntKind.i64 c.x), AV.d (D.bool true)]) ∧ (True))))))) (h := {G := [(31, gAns (.d (.bool true))), (19, gAns (.d (.int .i64 0)))], H := [(1, [(4, .val (.bool false))])], els := [(16, .el (ceD c))]}) (subs := []) (ws := []) (ρ := []) (by kernel_rfl) ?_
  have k1 := chk19 s hl
  rw [he] at k1
  have k2 := live31 s n
  rw [isLive_of hn, h0] at k2
  repeat' (first | with_reducible exact True.intro | with_reducible refine And.intro ?_ ?_ | with_reducible refine condP_dec (fun _ => ?_) (fun _ => ?_) | with_reducible refine condP_eq (fun _ => ?_) (fun _ => ?_) | with_reducible refine condP_ne (fun _ => ?_) (fun _ => ?_) | with_reducible refine condP_not (condP_dec (fun _ => ?_) (fun _ => ?_)) | with_reducible refine condP_not (condP_eq (fun _ => ?_) (fun _ => ?_)) | with_reducible refine condP_not (condP_intro (fun _ => ?_) (fun _ => ?_)) | with_reducible refine condP_intro (fun _ => ?_) (fun _ => ?_))
  all_goals first | exact k1 | exact k2 | rfl | exact el_map hn rfl | omega | exact dyes (by omega) | exact dno (by omega) | (refine congrArg D.bool ?_; simp_all; done) | (exfalso; simp_all; done) | skip

set_option maxRecDepth 100000 in
set_option maxHeartbeats 1000000 in
theorem get18n (s : Ar) (hl : s.l.length < 1000000) (a : Int) (h0 : isLive s a = false) (he : aChk s = 0) : FnOK Try.prog 18 ([.d (arD s), .d (.int .i64 a)]) ([]) (.tup [.d (.int .i64 0), .d (.bool false)]) ([]) := by
  refine fnOK_wp (p := (FnOK Try.prog (20 : Nat) [AV.d (D.agg [D.sl (List.map ceD s.l), D.int IntKind.i64 s.f, D.int IntKind.i64 s.u])] [] (AV.d (D.int IntKind.i64 (0 : Int))) []) ∧ ((D.bool false = D.bool false) ∧ ((FnOK Try.prog (32 : Nat) [AV.d (D.agg [D.sl (List.map ceD s.l), D.int IntKind.i64 s.f, D.int IntKind.i64 s.u]), AV.d (D.int IntKind.i64 a)] [] (AV.d (D.bool false)) []) ∧ ((AV.tup [AV.d (D.int IntKind.i64 (0 : Int)), AV.d (D.bool false)] = AV.tup [AV.d (D.int IntKind.i64 (0 : Int)), AV.d (D.bool false)]) ∧ (True))))) (h := {G := [(32, gAns (.d (.bool false))), (20, gAns (.d (.int .i64 0)))], H := [(1, [(3, .val (.bool false))])]}) (subs := []) (ws := []) (ρ := []) (by kernel_rfl) ?_
  have k1 := chk20 s hl
  rw [he] at k1
  have k2 := live32 s a
  rw [h0] at k2
  repeat' (first | with_reducible exact True.intro | with_reducible refine And.intro ?_ ?_ | with_reducible refine condP_dec (fun _ => ?_) (fun _ => ?_) | with_reducible refine condP_eq (fun _ => ?_) (fun _ => ?_) | with_reducible refine condP_ne (fun _ => ?_) (fun _ => ?_) | with_reducible refine condP_not (condP_dec (fun _ => ?_) (fun _ => ?_)) | with_reducible refine condP_not (condP_eq (fun _ => ?_) (fun _ => ?_)) | with_reducible refine condP_not (condP_intro (fun _ => ?_) (fun _ => ?_)) | with_reducible refine condP_intro (fun _ => ?_) (fun _ => ?_))
  all_goals first | exact k1 | exact k2 | rfl | exact el_map hn rfl | omega | exact dyes (by omega) | exact dno (by omega) | (refine congrArg D.bool ?_; simp_all; done) | (exfalso; simp_all; done) | skip

set_option maxRecDepth 100000 in
set_option maxHeartbeats 1000000 in
theorem get18e (s : Ar) (hl : s.l.length < 1000000) (a : Int) (e : Int) (he : aChk s = e) (h1 : e ≠ 0) : FnOK Try.prog 18 ([.d (arD s), .d (.int .i64 a)]) ([]) (.tup [.d (.int .i64 0), .d (.bool false)]) ([]) := by
  refine fnOK_wp (p := (FnOK Try.prog (20 : Nat) [AV.d (D.agg [D.sl (List.map ceD s.l), D.int IntKind.i64 s.f, D.int IntKind.i64 s.u])] [] (AV.d (D.int IntKind.i64 e)) []) ∧ ((D.bool (e != (0 : Int)) = D.bool true) ∧ ((D.bool true = D.bool true) ∧ ((AV.tup [AV.d (D.int IntKind.i64 (0 : Int)), AV.d (D.bool false)] = AV.tup [AV.d (D.int IntKind.i64 (0 : Int)), AV.d (D.bool false)]) ∧ (True))))) (h := {G := [(20, gAns (.d (.int .i64 e)))], H := [(1, [(2, .val (.bool true))])]}) (subs := []) (ws := []) (ρ := []) (by kernel_rfl) ?_
  have k1 := chk20 s hl
  rw [he] at k1
  repeat' (first | with_reducible exact True.intro | with_reducible refine And.intro ?_ ?_ | with_reducible refine condP_dec (fun _ => ?_) (fun _ => ?_) | with_reducible refine condP_eq (fun _ => ?_) (fun _ => ?_) | with_reducible refine condP_ne (fun _ => ?_) (fun _ => ?_) | with_reducible refine condP_not (condP_dec (fun _ => ?_) (fun _ => ?_)) | with_reducible refine condP_not (condP_eq (fun _ => ?_) (fun _ => ?_)) | with_reducible refine condP_not (condP_intro (fun _ => ?_) (fun _ => ?_)) | with_reducible refine condP_intro (fun _ => ?_) (fun _ => ?_))
  all_goals first | exact k1 | exact k2 | rfl | exact el_map hn rfl | omega | exact dyes (by omega) | exact dno (by omega) | (refine congrArg D.bool ?_; simp_all; done) | (exfalso; simp_all; done) | skip

set_option maxRecDepth 100000 in
set_option maxHeartbeats 1000000 in
theorem get18y (s : Ar) (hl : s.l.length < 1000000) (n : Nat) (c : Ce) (hn : s.l[n]? = some c) (h0 : c.v = true) (he : aChk s = 0) : FnOK Try.prog 18 ([.d (arD s), .d (.int .i64 n)]) ([]) (.tup [.d (.int .i64 c.x), .d (.bool true)]) ([]) := by
  refine fnOK_wp (p := (FnOK Try.prog (20 : Nat) [AV.d (D.agg [D.sl (List.map ceD s.l), D.int IntKind.i64 s.f, D.int IntKind.i64 s.u])] [] (AV.d (D.int IntKind.i64 (0 : Int))) []) ∧ ((D.bool false = D.bool false) ∧ ((FnOK Try.prog (32 : Nat) [AV.d (D.agg [D.sl (List.map ceD s.l), D.int IntKind.i64 s.f, D.int IntKind.i64 s.u]), AV.d (D.int IntKind.i64 (↑n : Int))] [] (AV.d (D.bool true)) []) ∧ (((0 : Int) ≤ (↑n : Int)) ∧ (((List.map ceD s.l)[(↑n : Int).toNat]? = some (D.agg [D.bool c.v, D.int IntKind.i64 c.x, D.int IntKind.i64 c.l])) ∧ ((AV.tup [AV.d (D.int IntKind.i64 c.x), AV.d (D.bool true)] = AV.tup [AV.d (D.int IntKind.i64 c.x), AV.d (D.bool true)]) ∧ (True))))))) (h := {G := [(32, gAns (.d (.bool true))), (20, gAns (.d (.int .i64 0)))], H := [(1, [(3, .val (.bool false))])], els := [(16, .el (ceD c))]}) (subs := []) (ws := []) (ρ := []) (by kernel_rfl) ?_
  have k1 := chk20 s hl
  rw [he] at k1
  have k2 := live32 s n
  rw [isLive_of hn, h0] at k2
  repeat' (first | with_reducible exact True.intro | with_reducible refine And.intro ?_ ?_ | with_reducible refine condP_dec (fun _ => ?_) (fun _ => ?_) | with_reducible refine condP_eq (fun _ => ?_) (fun _ => ?_) | with_reducible refine condP_ne (fun _ => ?_) (fun _ => ?_) | with_reducible refine condP_not (condP_dec (fun _ => ?_) (fun _ => ?_)) | with_reducible refine condP_not (condP_eq (fun _ => ?_) (fun _ => ?_)) | with_reducible refine condP_not (condP_intro (fun _ => ?_) (fun _ => ?_)) | with_reducible refine condP_intro (fun _ => ?_) (fun _ => ?_))
  all_goals first | exact k1 | exact k2 | rfl | exact el_map hn rfl | omega | exact dyes (by omega) | exact dno (by omega) | (refine congrArg D.bool ?_; simp_all; done) | (exfalso; simp_all; done) | skip

theorem get17 (s : Ar) (hl : s.l.length < 1000000) (a : Int) : FnOK Try.prog 17 [.d (arD s), .d (.int .i64 a)] [] (.tup [.d (.int .i64 (aGet s a).1), .d (.bool (aGet s a).2)]) [] := by
  unfold aGet
  cases h0 : isLive s a
  · rw [if_neg (by simp)]; exact get17n s hl a h0
  · by_cases he : aChk s = 0
    · rw [if_pos ⟨rfl, he⟩]
      obtain ⟨n, c, rfl, hn, hv⟩ := isLive_yes h0
      rw [valAt_of hn]
      exact get17y s hl n c hn hv he
    · rw [if_neg (by simp [he])]; exact get17e s hl a h0 _ rfl he
theorem get18 (s : Ar) (hl : s.l.length < 1000000) (a : Int) : FnOK Try.prog 18 [.d (arD s), .d (.int .i64 a)] [] (.tup [.d (.int .i64 (aGet s a).1), .d (.bool (aGet s a).2)]) [] := by
  unfold aGet
  by_cases he : aChk s = 0
  · cases h0 : isLive s a
    · rw [if_neg (by simp)]; exact get18n s hl a h0 he
    · rw [if_pos ⟨rfl, he⟩]
      obtain ⟨n, c, rfl, hn, hv⟩ := isLive_yes h0
      rw [valAt_of hn]
      exact get18y s hl n c hn hv he
  · rw [if_neg (by simp [he])]; exact get18e s hl a _ rfl he
/-! ### The places of live ones -/
def lix (l : List Ce) : Nat → List Int
  | 0 => []
  | j + 1 => lix l j ++ (if liveAt l j = true then [(j : Int)] else [])
theorem lix_len (l : List Ce) : ∀ j, (lix l j).length ≤ j
  | 0 => by simp [lix]
  | j + 1 => by unfold lix; have := lix_len l j; split <;> simp <;> omega
def aLv (s : Ar) : List Int := if aChk s = 0 then lix s.l s.l.length else []
def I22 (s : Ar) (j : Nat) : St := ⟨[(1, .ptr 0 0), (3, .own 1 1), (10, .d (.sl (s.l.map ceD))), (11, .d (.int .i64 s.l.length)), (12, .d (.int .i64 j))], [(0, arB s), (1, .row 1 (inD (lix s.l j)))]⟩
def I23 (s : Ar) (j : Nat) : St := ⟨[(1, .ptr 0 0), (3, .own 1 1), (4, .d (.int .i64 j))], [(0, arB s), (1, .row 1 (inD (lix s.l j)))]⟩
set_option maxRecDepth 100000 in
set_option maxHeartbeats 1000000 in
theorem r22 (s : Ar) (hl : s.l.length < 1000000) (j : Nat) (c : Ce) (hn : s.l[j]? = some c) (k1 : True) : Runs Try.prog 0 (loopN Try.prog 22 0) (St.as (I22 s j) 25) (.normal) (St.as (I22 s (j+1)) 25) := by
  refine round_wp (p := condP (decide ((↑j : Int) < (↑s.l.length : Int))) (((0 : Int) ≤ (↑j : Int)) ∧ (((List.map ceD s.l)[(↑j : Int).toNat]? = some (D.agg [D.bool c.v, D.int IntKind.i64 c.x, D.int IntKind.i64 c.l])) ∧ (condP (c.v) ((((inD (lix s.l j)).length + [D.int IntKind.i64 (↑j : Int)].length) * (8 : Nat) ≤ (140737488355328 : Nat)) ∧ ((∀ (e : D), e ∈ [D.int IntKind.i64 (↑j : Int)] → e.cells.length = (1 : Nat)) ∧ ((AV.ptr (0 : Nat) (0 : Nat) = AV.ptr (0 : Nat) (0 : Nat)) ∧ ((AV.own (1176 : Nat) (1 : Nat) = AV.own (1176 : Nat) (1 : Nat)) ∧ ((AV.d (D.sl (List.map ceD s.l)) = AV.d (D.sl (List.map ceD s.l))) ∧ ((AV.d (D.int IntKind.i64 (↑s.l.length : Int)) = AV.d (D.int IntKind.i64 (↑s.l.length : Int))) ∧ ((AV.d (D.int IntKind.i64 (IntKind.i64.wrap ((↑j : Int) + (1 : Int)))) = AV.d (D.int IntKind.i64 (↑(j + (1 : Nat)) : Int))) ∧ ((Ob.box [AV.d (D.sl (List.map ceD s.l)), AV.d (D.int IntKind.i64 s.f), AV.d (D.int IntKind.i64 s.u)] = Ob.box [AV.d (D.sl (List.map ceD s.l)), AV.d (D.int IntKind.i64 s.f), AV.d (D.int IntKind.i64 s.u)]) ∧ ((Ob.row (1 : Nat) (inD (lix s.l j) ++ [D.int IntKind.i64 (↑j : Int)]) = Ob.row (1 : Nat) (inD (lix s.l (j + (1 : Nat))))) ∧ (True)))))))))) ((AV.ptr (0 : Nat) (0 : Nat) = AV.ptr (0 : Nat) (0 : Nat)) ∧ ((AV.own (1 : Nat) (1 : Nat) = AV.own (1 : Nat) (1 : Nat)) ∧ ((AV.d (D.sl (List.map ceD s.l)) = AV.d (D.sl (List.map ceD s.l))) ∧ ((AV.d (D.int IntKind.i64 (↑s.l.length : Int)) = AV.d (D.int IntKind.i64 (↑s.l.length : Int))) ∧ ((AV.d (D.int IntKind.i64 (IntKind.i64.wrap ((↑j : Int) + (1 : Int)))) = AV.d (D.int IntKind.i64 (↑(j + (1 : Nat)) : Int))) ∧ ((Ob.box [AV.d (D.sl (List.map ceD s.l)), AV.d (D.int IntKind.i64 s.f), AV.d (D.int IntKind.i64 s.u)] = Ob.box [AV.d (D.sl (List.map ceD s.l)), AV.d (D.int IntKind.i64 s.f), AV.d (D.int IntKind.i64 s.u)]) ∧ ((Ob.row (1 : Nat) (inD (lix s.l j)) = Ob.row (1 : Nat) (inD (lix s.l (j + (1 : Nat))))) ∧ (True))))))))))) (False)) (h := {els := [(10, .el (ceD c))]}) (subs := []) (ws := []) (ρ := []) (by kernel_rfl) ?_
  have hj := get_lt hn
  have hi := inc_i64 (j := j) (by omega)
  have hle := lix_len s.l j
  have hln := inD_len (lix s.l j)
  have hs : lix s.l (j + 1) = lix s.l j ++ (if c.v = true then [(j : Int)] else []) := by rw [← liveAt_of hn]; rfl
  have ht : inD (lix s.l j ++ [(j : Int)]) = inD (lix s.l j) ++ [.int .i64 j] := inD_snoc _ _
  rw [hi, hs]
  cases hv : c.v
  · simp only [List.length_map, Bool.false_eq_true, if_false, List.append_nil]
    first | refine condP_t (by rw [decide_eq_true_eq]; omega) ?_ | skip
    repeat' (first | with_reducible exact True.intro | with_reducible refine And.intro ?_ ?_ | with_reducible refine condP_dec (fun _ => ?_) (fun _ => ?_) | with_reducible refine condP_eq (fun _ => ?_) (fun _ => ?_) | with_reducible refine condP_ne (fun _ => ?_) (fun _ => ?_) | with_reducible refine condP_not (condP_dec (fun _ => ?_) (fun _ => ?_)) | with_reducible refine condP_not (condP_eq (fun _ => ?_) (fun _ => ?_)) | with_reducible refine condP_not (condP_intro (fun _ => ?_) (fun _ => ?_)) | with_reducible refine condP_intro (fun _ => ?_) (fun _ => ?_))
    all_goals first | (exfalso; simp_all; done) | exact k1 | (rw [← hv]; exact el_map hn rfl) | rfl | omega | exact dyes (by omega) | skip
  · simp only [List.length_map, if_true, ht]
    first | refine condP_t (by rw [decide_eq_true_eq]; omega) ?_ | skip
    repeat' (first | with_reducible exact True.intro | with_reducible refine And.intro ?_ ?_ | with_reducible refine condP_dec (fun _ => ?_) (fun _ => ?_) | with_reducible refine condP_eq (fun _ => ?_) (fun _ => ?_) | with_reducible refine condP_ne (fun _ => ?_) (fun _ => ?_) | with_reducible refine condP_not (condP_dec (fun _ => ?_) (fun _ => ?_)) | with_reducible refine condP_not (condP_eq (fun _ => ?_) (fun _ => ?_)) | with_reducible refine condP_not (condP_intro (fun _ => ?_) (fun _ => ?_)) | with_reducible refine condP_intro (fun _ => ?_) (fun _ => ?_))
    all_goals first | (exfalso; simp_all; done) | exact k1 | (rw [← hv]; exact el_map hn rfl) | rfl | omega | exact dyes (by omega) | (rw [hln]; omega) | (simp [hln]; omega) | (simp [D.cells]; done) | skip

set_option maxRecDepth 100000 in
set_option maxHeartbeats 1000000 in
theorem q22 (s : Ar) : Runs Try.prog 0 (loopN Try.prog 22 0) (St.as (I22 s s.l.length) 25) (.exit 0) (St.as (I22 s s.l.length) 25) := by
  refine round_wp (p := condP (decide ((↑s.l.length : Int) < (↑s.l.length : Int))) (False) ((AV.ptr (0 : Nat) (0 : Nat) = AV.ptr (0 : Nat) (0 : Nat)) ∧ ((AV.own (1 : Nat) (1 : Nat) = AV.own (1 : Nat) (1 : Nat)) ∧ ((AV.d (D.sl (List.map ceD s.l)) = AV.d (D.sl (List.map ceD s.l))) ∧ ((AV.d (D.int IntKind.i64 (↑s.l.length : Int)) = AV.d (D.int IntKind.i64 (↑s.l.length : Int))) ∧ ((AV.d (D.int IntKind.i64 (↑s.l.length : Int)) = AV.d (D.int IntKind.i64 (↑s.l.length : Int))) ∧ ((Ob.box [AV.d (D.sl (List.map ceD s.l)), AV.d (D.int IntKind.i64 s.f), AV.d (D.int IntKind.i64 s.u)] = Ob.box [AV.d (D.sl (List.map ceD s.l)), AV.d (D.int IntKind.i64 s.f), AV.d (D.int IntKind.i64 s.u)]) ∧ ((Ob.row (1 : Nat) (inD (lix s.l s.l.length)) = Ob.row (1 : Nat) (inD (lix s.l s.l.length))) ∧ (True))))))))) (h := {}) (subs := []) (ws := []) (ρ := []) (by kernel_rfl) ?_
  repeat' (first | with_reducible exact True.intro | with_reducible refine And.intro ?_ ?_ | with_reducible refine condP_dec (fun _ => ?_) (fun _ => ?_) | with_reducible refine condP_eq (fun _ => ?_) (fun _ => ?_) | with_reducible refine condP_ne (fun _ => ?_) (fun _ => ?_) | with_reducible refine condP_not (condP_dec (fun _ => ?_) (fun _ => ?_)) | with_reducible refine condP_not (condP_eq (fun _ => ?_) (fun _ => ?_)) | with_reducible refine condP_not (condP_intro (fun _ => ?_) (fun _ => ?_)) | with_reducible refine condP_intro (fun _ => ?_) (fun _ => ?_))
  all_goals (try simp only [List.length_map, AV.d.injEq, D.int.injEq, D.bool.injEq, D.str.injEq, D.sl.injEq, true_and, and_true, decide_eq_true_eq, decide_eq_false_iff_not, decide_eq_decide])
  all_goals (try simp only [List.length_map] at *)
  all_goals first | rfl | omega

set_option maxRecDepth 100000 in
set_option maxHeartbeats 1000000 in
theorem live22e (s : Ar) (hl : s.l.length < 1000000) (e : Int) (he : aChk s = e) (h1 : e ≠ 0) : FnOK Try.prog 22 ([.d (arD s)]) ([]) (.d (.sl (inD []))) ([]) := by
  refine fnOK_wp (p := (FnOK Try.prog (19 : Nat) [AV.d (D.agg [D.sl (List.map ceD s.l), D.int IntKind.i64 s.f, D.int IntKind.i64 s.u])] [] (AV.d (D.int IntKind.i64 e)) []) ∧ ((D.bool (e != (0 : Int)) = D.bool true) ∧ ((AV.d (D.sl []) = AV.d (D.sl [])) ∧ (True)))) (h := {G := [(19, gAns (.d (.int .i64 e)))], H := [(1, [(2, .val (.bool true))])]}) (subs := []) (ws := []) (ρ := []) (by kernel_rfl) ?_
  have k1 := chk19 s hl
  rw [he] at k1
  repeat' (first | with_reducible exact True.intro | with_reducible refine And.intro ?_ ?_ | with_reducible refine condP_dec (fun _ => ?_) (fun _ => ?_) | with_reducible refine condP_eq (fun _ => ?_) (fun _ => ?_) | with_reducible refine condP_ne (fun _ => ?_) (fun _ => ?_) | with_reducible refine condP_not (condP_dec (fun _ => ?_) (fun _ => ?_)) | with_reducible refine condP_not (condP_eq (fun _ => ?_) (fun _ => ?_)) | with_reducible refine condP_not (condP_intro (fun _ => ?_) (fun _ => ?_)) | with_reducible refine condP_intro (fun _ => ?_) (fun _ => ?_))
  all_goals first | exact k1 | exact k2 | rfl | exact el_map hn rfl | omega | exact dyes (by omega) | exact dno (by omega) | (refine congrArg D.bool ?_; simp_all; done) | (exfalso; simp_all; done) | skip

set_option maxRecDepth 100000 in
set_option maxHeartbeats 1000000 in
theorem live22y (s : Ar) (hl : s.l.length < 1000000) (he : aChk s = 0) (hL : Loops Try.prog 0 (loopN Try.prog 22 0) ((I22 s 0).as 25) (.exit 0) ((I22 s s.l.length).as 25)) : FnOK Try.prog 22 ([.d (arD s)]) ([]) (.d (.sl (inD (lix s.l s.l.length)))) ([]) := by
  refine fnOK_wp (p := (FnOK Try.prog (19 : Nat) [AV.d (D.agg [D.sl (List.map ceD s.l), D.int IntKind.i64 s.f, D.int IntKind.i64 s.u])] [] (AV.d (D.int IntKind.i64 (0 : Int))) []) ∧ ((AV.ptr (1008 : Nat) (0 : Nat) = AV.ptr (1008 : Nat) (0 : Nat)) ∧ ((AV.own (901 : Nat) (1 : Nat) = AV.own (901 : Nat) (1 : Nat)) ∧ ((AV.d (D.sl (List.map ceD s.l)) = AV.d (D.sl (List.map ceD s.l))) ∧ ((AV.d (D.int IntKind.i64 (↑(List.map ceD s.l).length : Int)) = AV.d (D.int IntKind.i64 (↑s.l.length : Int))) ∧ ((AV.d (D.int IntKind.i64 (0 : Int)) = AV.d (D.int IntKind.i64 (0 : Int))) ∧ ((Ob.box [AV.d (D.sl (List.map ceD s.l)), AV.d (D.int IntKind.i64 s.f), AV.d (D.int IntKind.i64 s.u)] = Ob.box [AV.d (D.sl (List.map ceD s.l)), AV.d (D.int IntKind.i64 s.f), AV.d (D.int IntKind.i64 s.u)]) ∧ ((Ob.row (1 : Nat) [] = Ob.row (1 : Nat) []) ∧ ((LoopsS Try.prog (0 : Nat) (loopN Try.prog (22 : Nat) (0 : Nat)) (I22 s (0 : Nat)) (Exit.exit (0 : Nat)) (I22 s s.l.length) (25 : Nat)) ∧ ((AV.d (D.sl (inD (lix s.l s.l.length))) = AV.d (D.sl (inD (lix s.l s.l.length)))) ∧ (True))))))))))) (h := {G := [(19, gAns (.d (.int .i64 0)))]}) (subs := [⟨[], [], I22 s 0, .exit 0, I22 s s.l.length⟩]) (ws := []) (ρ := []) (by kernel_rfl) ?_
  have k1 := chk19 s hl
  rw [he] at k1
  simp only [List.length_map]
  repeat' (first | with_reducible exact True.intro | with_reducible refine And.intro ?_ ?_ | with_reducible refine condP_dec (fun _ => ?_) (fun _ => ?_) | with_reducible refine condP_eq (fun _ => ?_) (fun _ => ?_) | with_reducible refine condP_ne (fun _ => ?_) (fun _ => ?_) | with_reducible refine condP_not (condP_dec (fun _ => ?_) (fun _ => ?_)) | with_reducible refine condP_not (condP_eq (fun _ => ?_) (fun _ => ?_)) | with_reducible refine condP_not (condP_intro (fun _ => ?_) (fun _ => ?_)) | with_reducible refine condP_intro (fun _ => ?_) (fun _ => ?_))
  all_goals first | exact k1 | exact hL | rfl | skip

theorem live22 (s : Ar) (hl : s.l.length < 1000000) : FnOK Try.prog 22 [.d (arD s)] [] (.d (.sl (inD (aLv s)))) [] := by
  unfold aLv
  by_cases he : aChk s = 0
  · rw [if_pos he]
    exact live22y s hl he (loops_n (I := fun j => (I22 s j).as 25) (by simp) s.l.length 0 (by omega) (fun j _ hj => r22 s hl j _ (get_of hj) trivial) (q22 s))
  · rw [if_neg he]; exact live22e s hl _ rfl he
set_option maxRecDepth 100000 in
set_option maxHeartbeats 1000000 in
theorem r23 (s : Ar) (hl : s.l.length < 1000000) (j : Nat) (c : Ce) (hn : s.l[j]? = some c) (k1 : FnOK Try.prog 20 [.d (arD s)] [] (.d (.int .i64 0)) []) : Runs Try.prog 0 (loopN Try.prog 23 0) (St.as (I23 s j) 28) (.normal) (St.as (I23 s (j+1)) 28) := by
  refine round_wp (p := (D.bool (decide ((↑j : Int) < (↑(List.map ceD s.l).length : Int))) = D.bool true) ∧ ((D.bool true = D.bool true) ∧ ((FnOK Try.prog (20 : Nat) [AV.d (D.agg [D.sl (List.map ceD s.l), D.int IntKind.i64 s.f, D.int IntKind.i64 s.u])] [] (AV.d (D.int IntKind.i64 (0 : Int))) []) ∧ (((0 : Int) ≤ (↑j : Int)) ∧ (((List.map ceD s.l)[(↑j : Int).toNat]? = some (D.agg [D.bool c.v, D.int IntKind.i64 c.x, D.int IntKind.i64 c.l])) ∧ (condP (c.v) ((((inD (lix s.l j)).length + [D.int IntKind.i64 (↑j : Int)].length) * (8 : Nat) ≤ (140737488355328 : Nat)) ∧ ((∀ (e : D), e ∈ [D.int IntKind.i64 (↑j : Int)] → e.cells.length = (1 : Nat)) ∧ ((AV.ptr (0 : Nat) (0 : Nat) = AV.ptr (0 : Nat) (0 : Nat)) ∧ ((AV.own (1208 : Nat) (1 : Nat) = AV.own (1208 : Nat) (1 : Nat)) ∧ ((AV.d (D.int IntKind.i64 (IntKind.i64.wrap ((↑j : Int) + (1 : Int)))) = AV.d (D.int IntKind.i64 (↑(j + (1 : Nat)) : Int))) ∧ ((Ob.box [AV.d (D.sl (List.map ceD s.l)), AV.d (D.int IntKind.i64 s.f), AV.d (D.int IntKind.i64 s.u)] = Ob.box [AV.d (D.sl (List.map ceD s.l)), AV.d (D.int IntKind.i64 s.f), AV.d (D.int IntKind.i64 s.u)]) ∧ ((Ob.row (1 : Nat) (inD (lix s.l j) ++ [D.int IntKind.i64 (↑j : Int)]) = Ob.row (1 : Nat) (inD (lix s.l (j + (1 : Nat))))) ∧ (True)))))))) ((AV.ptr (0 : Nat) (0 : Nat) = AV.ptr (0 : Nat) (0 : Nat)) ∧ ((AV.own (1 : Nat) (1 : Nat) = AV.own (1 : Nat) (1 : Nat)) ∧ ((AV.d (D.int IntKind.i64 (IntKind.i64.wrap ((↑j : Int) + (1 : Int)))) = AV.d (D.int IntKind.i64 (↑(j + (1 : Nat)) : Int))) ∧ ((Ob.box [AV.d (D.sl (List.map ceD s.l)), AV.d (D.int IntKind.i64 s.f), AV.d (D.int IntKind.i64 s.u)] = Ob.box [AV.d (D.sl (List.map ceD s.l)), AV.d (D.int IntKind.i64 s.f), AV.d (D.int IntKind.i64 s.u)]) ∧ ((Ob.row (1 : Nat) (inD (lix s.l j)) = Ob.row (1 : Nat) (inD (lix s.l (j + (1 : Nat))))) ∧ (True)))))))))))) (h := {els := [(18, .el (ceD c))], G := [(20, gAns (.d (.int .i64 0)))], H := [(3, [(4, .val (.bool true))])]}) (subs := []) (ws := []) (ρ := []) (by kernel_rfl) ?_
  have hj := get_lt hn
  have hi := inc_i64 (j := j) (by omega)
  have hle := lix_len s.l j
  have hln := inD_len (lix s.l j)
  have hs : lix s.l (j + 1) = lix s.l j ++ (if c.v = true then [(j : Int)] else []) := by rw [← liveAt_of hn]; rfl
  have ht : inD (lix s.l j ++ [(j : Int)]) = inD (lix s.l j) ++ [.int .i64 j] := inD_snoc _ _
  rw [hi, hs]
  cases hv : c.v
  · simp only [List.length_map, Bool.false_eq_true, if_false, List.append_nil]
    first | refine condP_t (by rw [decide_eq_true_eq]; omega) ?_ | skip
    repeat' (first | with_reducible exact True.intro | with_reducible refine And.intro ?_ ?_ | with_reducible refine condP_dec (fun _ => ?_) (fun _ => ?_) | with_reducible refine condP_eq (fun _ => ?_) (fun _ => ?_) | with_reducible refine condP_ne (fun _ => ?_) (fun _ => ?_) | with_reducible refine condP_not (condP_dec (fun _ => ?_) (fun _ => ?_)) | with_reducible refine condP_not (condP_eq (fun _ => ?_) (fun _ => ?_)) | with_reducible refine condP_not (condP_intro (fun _ => ?_) (fun _ => ?_)) | with_reducible refine condP_intro (fun _ => ?_) (fun _ => ?_))
    all_goals first | (exfalso; simp_all; done) | exact k1 | (rw [← hv]; exact el_map hn rfl) | rfl | omega | exact dyes (by omega) | skip
  · simp only [List.length_map, if_true, ht]
    first | refine condP_t (by rw [decide_eq_true_eq]; omega) ?_ | skip
    repeat' (first | with_reducible exact True.intro | with_reducible refine And.intro ?_ ?_ | with_reducible refine condP_dec (fun _ => ?_) (fun _ => ?_) | with_reducible refine condP_eq (fun _ => ?_) (fun _ => ?_) | with_reducible refine condP_ne (fun _ => ?_) (fun _ => ?_) | with_reducible refine condP_not (condP_dec (fun _ => ?_) (fun _ => ?_)) | with_reducible refine condP_not (condP_eq (fun _ => ?_) (fun _ => ?_)) | with_reducible refine condP_not (condP_intro (fun _ => ?_) (fun _ => ?_)) | with_reducible refine condP_intro (fun _ => ?_) (fun _ => ?_))
    all_goals first | (exfalso; simp_all; done) | exact k1 | (rw [← hv]; exact el_map hn rfl) | rfl | omega | exact dyes (by omega) | (rw [hln]; omega) | (simp [hln]; omega) | (simp [D.cells]; done) | skip

set_option maxRecDepth 100000 in
set_option maxHeartbeats 1000000 in
theorem q23 (s : Ar) : Runs Try.prog 0 (loopN Try.prog 23 0) (St.as (I23 s s.l.length) 28) (.exit 0) (St.as (I23 s s.l.length) 28) := by
  refine round_wp (p := (D.bool (decide ((↑s.l.length : Int) < (↑(List.map ceD s.l).length : Int))) = D.bool false) ∧ ((D.bool false = D.bool false) ∧ ((AV.ptr (0 : Nat) (0 : Nat) = AV.ptr (0 : Nat) (0 : Nat)) ∧ ((AV.own (1 : Nat) (1 : Nat) = AV.own (1 : Nat) (1 : Nat)) ∧ ((AV.d (D.int IntKind.i64 (↑s.l.length : Int)) = AV.d (D.int IntKind.i64 (↑s.l.length : Int))) ∧ ((Ob.box [AV.d (D.sl (List.map ceD s.l)), AV.d (D.int IntKind.i64 s.f), AV.d (D.int IntKind.i64 s.u)] = Ob.box [AV.d (D.sl (List.map ceD s.l)), AV.d (D.int IntKind.i64 s.f), AV.d (D.int IntKind.i64 s.u)]) ∧ ((Ob.row (1 : Nat) (inD (lix s.l s.l.length)) = Ob.row (1 : Nat) (inD (lix s.l s.l.length))) ∧ (True)))))))) (h := {H := [(3, [(4, .val (.bool false))])]}) (subs := []) (ws := []) (ρ := []) (by kernel_rfl) ?_
  simp only [List.length_map]
  repeat' (first | with_reducible exact True.intro | with_reducible refine And.intro ?_ ?_ | with_reducible refine condP_dec (fun _ => ?_) (fun _ => ?_) | with_reducible refine condP_eq (fun _ => ?_) (fun _ => ?_) | with_reducible refine condP_ne (fun _ => ?_) (fun _ => ?_) | with_reducible refine condP_not (condP_dec (fun _ => ?_) (fun _ => ?_)) | with_reducible refine condP_not (condP_eq (fun _ => ?_) (fun _ => ?_)) | with_reducible refine condP_not (condP_intro (fun _ => ?_) (fun _ => ?_)) | with_reducible refine condP_intro (fun _ => ?_) (fun _ => ?_))
  all_goals first | rfl | exact dno (by omega) | omega | skip

set_option maxRecDepth 100000 in
set_option maxHeartbeats 1000000 in
theorem e23 (s : Ar) (e : Int) (h1 : e ≠ 0) (h : 0 < s.l.length) (k1 : FnOK Try.prog 20 [.d (arD s)] [] (.d (.int .i64 e)) []) : Runs Try.prog 0 (loopN Try.prog 23 0) (St.as (I23 s 0) 28) (.exit 0) (St.as (I23 s 0) 28) := by
  refine round_wp (p := (D.bool (decide ((0 : Int) < (↑(List.map ceD s.l).length : Int))) = D.bool true) ∧ ((D.bool true = D.bool true) ∧ ((FnOK Try.prog (20 : Nat) [AV.d (D.agg [D.sl (List.map ceD s.l), D.int IntKind.i64 s.f, D.int IntKind.i64 s.u])] [] (AV.d (D.int IntKind.i64 e)) []) ∧ ((D.bool (e == (0 : Int)) = D.bool false) ∧ ((AV.ptr (0 : Nat) (0 : Nat) = AV.ptr (0 : Nat) (0 : Nat)) ∧ ((AV.own (1 : Nat) (1 : Nat) = AV.own (1 : Nat) (1 : Nat)) ∧ ((AV.d (D.int IntKind.i64 (0 : Int)) = AV.d (D.int IntKind.i64 (0 : Int))) ∧ ((Ob.box [AV.d (D.sl (List.map ceD s.l)), AV.d (D.int IntKind.i64 s.f), AV.d (D.int IntKind.i64 s.u)] = Ob.box [AV.d (D.sl (List.map ceD s.l)), AV.d (D.int IntKind.i64 s.f), AV.d (D.int IntKind.i64 s.u)]) ∧ ((Ob.row (1 : Nat) [] = Ob.row (1 : Nat) []) ∧ (True)))))))))) (h := {G := [(20, gAns (.d (.int .i64 e)))], H := [(3, [(4, .val (.bool true)), (8, .val (.bool false))])]}) (subs := []) (ws := []) (ρ := []) (by kernel_rfl) ?_
  simp only [List.length_map]
  repeat' (first | with_reducible exact True.intro | with_reducible refine And.intro ?_ ?_ | with_reducible refine condP_dec (fun _ => ?_) (fun _ => ?_) | with_reducible refine condP_eq (fun _ => ?_) (fun _ => ?_) | with_reducible refine condP_ne (fun _ => ?_) (fun _ => ?_) | with_reducible refine condP_not (condP_dec (fun _ => ?_) (fun _ => ?_)) | with_reducible refine condP_not (condP_eq (fun _ => ?_) (fun _ => ?_)) | with_reducible refine condP_not (condP_intro (fun _ => ?_) (fun _ => ?_)) | with_reducible refine condP_intro (fun _ => ?_) (fun _ => ?_))
  all_goals first | exact k1 | rfl | exact dyes (by omega) | exact dno (by omega) | (refine congrArg D.bool ?_; simp_all; done) | omega | skip

set_option maxRecDepth 100000 in
set_option maxHeartbeats 1000000 in
theorem live23' (s : Ar) (j : Nat) (hL : Loops Try.prog 0 (loopN Try.prog 23 0) ((I23 s 0).as 28) (.exit 0) ((I23 s j).as 28)) : FnOK Try.prog 23 ([.d (arD s)]) ([]) (.d (.sl (inD (lix s.l j)))) ([]) := by
  refine fnOK_wp (p := (AV.ptr (1008 : Nat) (0 : Nat) = AV.ptr (1008 : Nat) (0 : Nat)) ∧ ((AV.own (901 : Nat) (1 : Nat) = AV.own (901 : Nat) (1 : Nat)) ∧ ((AV.d (D.int IntKind.i64 (0 : Int)) = AV.d (D.int IntKind.i64 (0 : Int))) ∧ ((Ob.box [AV.d (D.sl (List.map ceD s.l)), AV.d (D.int IntKind.i64 s.f), AV.d (D.int IntKind.i64 s.u)] = Ob.box [AV.d (D.sl (List.map ceD s.l)), AV.d (D.int IntKind.i64 s.f), AV.d (D.int IntKind.i64 s.u)]) ∧ ((Ob.row (1 : Nat) [] = Ob.row (1 : Nat) []) ∧ ((LoopsS Try.prog (0 : Nat) (loopN Try.prog (23 : Nat) (0 : Nat)) (I23 s (0 : Nat)) (Exit.exit (0 : Nat)) (I23 s j) (28 : Nat)) ∧ ((AV.d (D.sl (inD (lix s.l j))) = AV.d (D.sl (inD (lix s.l j)))) ∧ (True)))))))) (h := {}) (subs := [⟨[], [], I23 s 0, .exit 0, I23 s j⟩]) (ws := []) (ρ := []) (by kernel_rfl) ?_
  repeat' (first | with_reducible exact True.intro | with_reducible refine And.intro ?_ ?_ | with_reducible refine condP_dec (fun _ => ?_) (fun _ => ?_) | with_reducible refine condP_eq (fun _ => ?_) (fun _ => ?_) | with_reducible refine condP_ne (fun _ => ?_) (fun _ => ?_) | with_reducible refine condP_not (condP_dec (fun _ => ?_) (fun _ => ?_)) | with_reducible refine condP_not (condP_eq (fun _ => ?_) (fun _ => ?_)) | with_reducible refine condP_not (condP_intro (fun _ => ?_) (fun _ => ?_)) | with_reducible refine condP_intro (fun _ => ?_) (fun _ => ?_))
  all_goals first | exact hL | rfl | skip

theorem live23 (s : Ar) (hl : s.l.length < 1000000) : FnOK Try.prog 23 [.d (arD s)] [] (.d (.sl (inD (aLv s)))) [] := by
  have k := chk20 s hl
  unfold aLv
  by_cases he : aChk s = 0
  · rw [he] at k
    rw [if_pos he]
    exact live23' s _ (loops_n (I := fun j => (I23 s j).as 28) (by simp) s.l.length 0 (by omega) (fun j _ hj => r23 s hl j _ (get_of hj) k) (q23 s))
  · rw [if_neg he]
    by_cases h0 : s.l.length = 0
    · have hq := q23 s
      rw [h0] at hq
      exact live23' s 0 (.out hq (by simp))
    · exact live23' s 0 (.out (e23 s _ he (by omega) k) (by simp))
/-! ### The places of spare ones -/
def aSp (s : Ar) : List Int := if aChk s = 0 then (chA s).1 else []
set_option maxRecDepth 100000 in
set_option maxHeartbeats 1000000 in
theorem spare24e (s : Ar) (hl : s.l.length < 1000000) (e : Int) (he : aChk s = e) (h1 : e ≠ 0) : FnOK Try.prog 24 ([.d (arD s)]) ([]) (.d (.sl (inD []))) ([]) := by
  refine fnOK_wp (p := (FnOK Try.prog (19 : Nat) [AV.d (D.agg [D.sl (List.map ceD s.l), D.int IntKind.i64 s.f, D.int IntKind.i64 s.u])] [] (AV.d (D.int IntKind.i64 e)) []) ∧ ((D.bool (e != (0 : Int)) = D.bool true) ∧ ((AV.d (D.sl []) = AV.d (D.sl [])) ∧ (True)))) (h := {G := [(19, gAns (.d (.int .i64 e)))], H := [(1, [(2, .val (.bool true))])]}) (subs := []) (ws := []) (ρ := []) (by kernel_rfl) ?_
  have k1 := chk19 s hl
  rw [he] at k1
  repeat' (first | with_reducible exact True.intro | with_reducible refine And.intro ?_ ?_ | with_reducible refine condP_dec (fun _ => ?_) (fun _ => ?_) | with_reducible refine condP_eq (fun _ => ?_) (fun _ => ?_) | with_reducible refine condP_ne (fun _ => ?_) (fun _ => ?_) | with_reducible refine condP_not (condP_dec (fun _ => ?_) (fun _ => ?_)) | with_reducible refine condP_not (condP_eq (fun _ => ?_) (fun _ => ?_)) | with_reducible refine condP_not (condP_intro (fun _ => ?_) (fun _ => ?_)) | with_reducible refine condP_intro (fun _ => ?_) (fun _ => ?_))
  all_goals first | exact k1 | exact k2 | rfl | exact el_map hn rfl | omega | exact dyes (by omega) | exact dno (by omega) | (refine congrArg D.bool ?_; simp_all; done) | (exfalso; simp_all; done) | skip

set_option maxRecDepth 100000 in
set_option maxHeartbeats 1000000 in
theorem spare24y (s : Ar) (hl : s.l.length < 1000000) (he : aChk s = 0) (l : List Int) (b : Bool) (k2 : FnOK Try.prog 37 [.d (arD s)] [] (.tup [.d (.sl (inD l)), .d (.bool b)]) []) : FnOK Try.prog 24 ([.d (arD s)]) ([]) (.d (.sl (inD l))) ([]) := by
  refine fnOK_wp (p := (FnOK Try.prog (19 : Nat) [AV.d (D.agg [D.sl (List.map ceD s.l), D.int IntKind.i64 s.f, D.int IntKind.i64 s.u])] [] (AV.d (D.int IntKind.i64 (0 : Int))) []) ∧ ((FnOK Try.prog (37 : Nat) [AV.d (D.agg [D.sl (List.map ceD s.l), D.int IntKind.i64 s.f, D.int IntKind.i64 s.u])] [] (AV.tup [AV.d (D.sl (inD l)), AV.d (D.bool b)]) []) ∧ ((AV.d (D.sl (inD l)) = AV.d (D.sl (inD l))) ∧ (True)))) (h := {G := [(19, gAns (.d (.int .i64 0))), (37, gAns (.tup [.d (.sl (inD l)), .d (.bool b)]))]}) (subs := []) (ws := []) (ρ := []) (by kernel_rfl) ?_
  have k1 := chk19 s hl
  rw [he] at k1
  repeat' (first | with_reducible exact True.intro | with_reducible refine And.intro ?_ ?_ | with_reducible refine condP_dec (fun _ => ?_) (fun _ => ?_) | with_reducible refine condP_eq (fun _ => ?_) (fun _ => ?_) | with_reducible refine condP_ne (fun _ => ?_) (fun _ => ?_) | with_reducible refine condP_not (condP_dec (fun _ => ?_) (fun _ => ?_)) | with_reducible refine condP_not (condP_eq (fun _ => ?_) (fun _ => ?_)) | with_reducible refine condP_not (condP_intro (fun _ => ?_) (fun _ => ?_)) | with_reducible refine condP_intro (fun _ => ?_) (fun _ => ?_))
  all_goals first | exact k1 | exact k2 | rfl | exact el_map hn rfl | omega | exact dyes (by omega) | exact dno (by omega) | (refine congrArg D.bool ?_; simp_all; done) | (exfalso; simp_all; done) | skip

set_option maxRecDepth 100000 in
set_option maxHeartbeats 1000000 in
theorem spare25e (s : Ar) (hl : s.l.length < 1000000) (e : Int) (he : aChk s = e) (h1 : e ≠ 0) : FnOK Try.prog 25 ([.d (arD s)]) ([]) (.d (.sl (inD []))) ([]) := by
  refine fnOK_wp (p := (FnOK Try.prog (20 : Nat) [AV.d (D.agg [D.sl (List.map ceD s.l), D.int IntKind.i64 s.f, D.int IntKind.i64 s.u])] [] (AV.d (D.int IntKind.i64 e)) []) ∧ ((D.bool (e != (0 : Int)) = D.bool true) ∧ ((AV.d (D.sl []) = AV.d (D.sl [])) ∧ (True)))) (h := {G := [(20, gAns (.d (.int .i64 e)))], H := [(1, [(2, .val (.bool true))])]}) (subs := []) (ws := []) (ρ := []) (by kernel_rfl) ?_
  have k1 := chk20 s hl
  rw [he] at k1
  repeat' (first | with_reducible exact True.intro | with_reducible refine And.intro ?_ ?_ | with_reducible refine condP_dec (fun _ => ?_) (fun _ => ?_) | with_reducible refine condP_eq (fun _ => ?_) (fun _ => ?_) | with_reducible refine condP_ne (fun _ => ?_) (fun _ => ?_) | with_reducible refine condP_not (condP_dec (fun _ => ?_) (fun _ => ?_)) | with_reducible refine condP_not (condP_eq (fun _ => ?_) (fun _ => ?_)) | with_reducible refine condP_not (condP_intro (fun _ => ?_) (fun _ => ?_)) | with_reducible refine condP_intro (fun _ => ?_) (fun _ => ?_))
  all_goals first | exact k1 | exact k2 | rfl | exact el_map hn rfl | omega | exact dyes (by omega) | exact dno (by omega) | (refine congrArg D.bool ?_; simp_all; done) | (exfalso; simp_all; done) | skip

set_option maxRecDepth 100000 in
set_option maxHeartbeats 1000000 in
theorem spare25y (s : Ar) (hl : s.l.length < 1000000) (he : aChk s = 0) (l : List Int) (k2 : FnOK Try.prog 39 [.d (arD s)] [] (.d (.sl (inD l))) []) : FnOK Try.prog 25 ([.d (arD s)]) ([]) (.d (.sl (inD l))) ([]) := by
  refine fnOK_wp (p := (FnOK Try.prog (20 : Nat) [AV.d (D.agg [D.sl (List.map ceD s.l), D.int IntKind.i64 s.f, D.int IntKind.i64 s.u])] [] (AV.d (D.int IntKind.i64 (0 : Int))) []) ∧ ((FnOK Try.prog (39 : Nat) [AV.d (D.agg [D.sl (List.map ceD s.l), D.int IntKind.i64 s.f, D.int IntKind.i64 s.u])] [] (AV.d (D.sl (inD l))) []) ∧ ((AV.d (D.sl (inD l)) = AV.d (D.sl (inD l))) ∧ (True)))) (h := {G := [(20, gAns (.d (.int .i64 0))), (39, gAns (.d (.sl (inD l))))]}) (subs := []) (ws := []) (ρ := []) (by kernel_rfl) ?_
  have k1 := chk20 s hl
  rw [he] at k1
  repeat' (first | with_reducible exact True.intro | with_reducible refine And.intro ?_ ?_ | with_reducible refine condP_dec (fun _ => ?_) (fun _ => ?_) | with_reducible refine condP_eq (fun _ => ?_) (fun _ => ?_) | with_reducible refine condP_ne (fun _ => ?_) (fun _ => ?_) | with_reducible refine condP_not (condP_dec (fun _ => ?_) (fun _ => ?_)) | with_reducible refine condP_not (condP_eq (fun _ => ?_) (fun _ => ?_)) | with_reducible refine condP_not (condP_intro (fun _ => ?_) (fun _ => ?_)) | with_reducible refine condP_intro (fun _ => ?_) (fun _ => ?_))
  all_goals first | exact k1 | exact k2 | rfl | exact el_map hn rfl | omega | exact dyes (by omega) | exact dno (by omega) | (refine congrArg D.bool ?_; simp_all; done) | (exfalso; simp_all; done) | skip

theorem spare24 (s : Ar) (hl : s.l.length < 1000000) : FnOK Try.prog 24 [.d (arD s)] [] (.d (.sl (inD (aSp s)))) [] := by
  unfold aSp
  by_cases he : aChk s = 0
  · rw [if_pos he]
    obtain ⟨sp, ho⟩ := chk_ok.1 he
    exact spare24y s hl he _ _ (chain37' s ho.pl ho.f hl)
  · rw [if_neg he]; exact spare24e s hl _ rfl he
theorem spare25 (s : Ar) (hl : s.l.length < 1000000) : FnOK Try.prog 25 [.d (arD s)] [] (.d (.sl (inD (aSp s)))) [] := by
  unfold aSp
  by_cases he : aChk s = 0
  · rw [if_pos he]
    obtain ⟨sp, ho⟩ := chk_ok.1 he
    have e : (chA s).1 = chR s := by rw [ok_ch ho, ok_chR ho]
    rw [e]
    exact spare25y s hl he _ (chain39' s ho.pl ho.f hl)
  · rw [if_neg he]; exact spare25e s hl _ rfl he
end Go.Proofs.Ytgdifegembfjoaa
