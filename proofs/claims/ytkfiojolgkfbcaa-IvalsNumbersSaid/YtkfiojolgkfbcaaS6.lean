/-
laws 06: the program's Meet.
-/
import Derived.Test.YtkfiojolgkfbcaaS5
set_option linter.unusedSimpArgs false
set_option linter.unusedVariables false
namespace Go.Proofs.Ytkfiojolgkfbcaa
open Sx Go.RowKit

def both (x y : Iv) : Iv := (max x.1 y.1, min x.2 y.2)
def stM (x : Iv) (m : List Iv) (y : Iv) : List Iv := pPut m (both x y)
def pMeet (a b : List Iv) : List Iv := a.foldl (fun m x => b.foldl (stM x) m) []
theorem stM_len (x : Iv) : ∀ (b m : List Iv), (b.foldl (stM x) m).length ≤ m.length + b.length
  | [], m => by simp
  | y :: b, m => by
    have := stM_len x b (stM x m y)
    have : (stM x m y).length ≤ m.length + 1 := pPut_len m (both x y)
    rw [List.foldl_cons, List.length_cons]
    omega
theorem pMeet_len (b : List Iv) : ∀ (a m : List Iv), (a.foldl (fun m x => b.foldl (stM x) m) m).length ≤ m.length + a.length * b.length
  | [], m => by simp
  | x :: a, m => by
    have := pMeet_len b a (b.foldl (stM x) m)
    have := stM_len x b m
    rw [List.foldl_cons, List.length_cons, Nat.succ_mul]
    omega
def I17 (a b m : List Iv) (j : Nat) : St := ⟨[(1, .d (.sl (b.map ivD))), (5, .own 0 2), (18, .d (.sl (a.map ivD))), (19, .d (.int .i64 a.length)), (20, .d (.int .i64 j))], [(0, .row 2 (m.map ivD))]⟩
def J17 (a b : List Iv) (x : Iv) (m : List Iv) (j i : Nat) : St := ⟨[(1, .d (.sl (b.map ivD))), (5, .own 0 2), (7, .ptr 1 0), (18, .d (.sl (a.map ivD))), (19, .d (.int .i64 a.length)), (20, .d (.int .i64 j)), (24, .d (.sl (b.map ivD))), (25, .d (.int .i64 b.length)), (26, .d (.int .i64 i))], [(0, .row 2 (m.map ivD)), (1, ivB x)]⟩
set_option maxRecDepth 100000 in
set_option maxHeartbeats 1000000 in
theorem s17 (a b : List Iv) (hb : b.length < 1000000) (x : Iv) (m : List Iv) (hm : m.length < 1000000) (j i : Nat) (y : Iv) (hn : b[i]? = some y) : Runs Try.prog 0 (loopN Try.prog 17 1) (St.as (J17 a b x m j i) 46) (.normal) (St.as (J17 a b x (pPut m (both x y)) j (i+1)) 46) := by
  refine round_wp (p := condP (decide ((↑i : Int) < (↑b.length : Int))) (((0 : Int) ≤ (↑i : Int)) ∧ (((List.map ivD b)[(↑i : Int).toNat]? = some (D.agg [D.int IntKind.i64 y.fst, D.int IntKind.i64 y.snd])) ∧ ((FnOK Try.prog (33 : Nat) [AV.own (0 : Nat) (2 : Nat), AV.d (D.agg [D.int IntKind.i64 (max x.fst y.fst), D.int IntKind.i64 (min x.snd y.snd)])] [Ob.row (2 : Nat) (List.map ivD m)] (AV.own (1 : Nat) (2 : Nat)) [Ob.gone, Ob.row (2 : Nat) (List.map ivD (pPut m (both x y)))]) ∧ ((AV.d (D.sl (List.map ivD b)) = AV.d (D.sl (List.map ivD b))) ∧ ((AV.own (1336 : Nat) (2 : Nat) = AV.own (1336 : Nat) (2 : Nat)) ∧ ((AV.ptr (1 : Nat) (0 : Nat) = AV.ptr (1 : Nat) (0 : Nat)) ∧ ((AV.d (D.sl (List.map ivD a)) = AV.d (D.sl (List.map ivD a))) ∧ ((AV.d (D.int IntKind.i64 (↑a.length : Int)) = AV.d (D.int IntKind.i64 (↑a.length : Int))) ∧ ((AV.d (D.int IntKind.i64 (↑j : Int)) = AV.d (D.int IntKind.i64 (↑j : Int))) ∧ ((AV.d (D.sl (List.map ivD b)) = AV.d (D.sl (List.map ivD b))) ∧ ((AV.d (D.int IntKind.i64 (↑b.length : Int)) = AV.d (D.int IntKind.i64 (↑b.length : Int))) ∧ ((AV.d (D.int IntKind.i64 (IntKind.i64.wrap ((↑i : Int) + (1 : Int)))) = AV.d (D.int IntKind.i64 (↑(i + (1 : Nat)) : Int))) ∧ ((Ob.row (2 : Nat) (List.map ivD (pPut m (both x y))) = Ob.row (2 : Nat) (List.map ivD (pPut m (both x y)))) ∧ ((Ob.box [AV.d (D.int IntKind.i64 x.fst), AV.d (D.int IntKind.i64 x.snd)] = Ob.box [AV.d (D.int IntKind.i64 x.fst), AV.d (D.int IntKind.i64 x.snd)]) ∧ (True))))))))))))))) (False)) (h := {els := [(24, .el (ivD y))], H := [(10, [(12, .call [0] (.own 1 2) [.gone, .row 2 ((pPut m (both x y)).map ivD)])])]}) (subs := []) (ws := []) (ρ := []) (by kernel_rfl) ?_
  have hj := get_lt hn
  have hi := inc_i64 (j := i) (by omega)
  have k1 := put33 m hm (both x y)
  simp only [hi]
  refine condP_t (by rw [decide_eq_true_eq]; omega) ?_
  repeat' (first | with_reducible exact True.intro | with_reducible refine And.intro ?_ ?_ | with_reducible refine condP_dec (fun _ => ?_) (fun _ => ?_) | with_reducible refine condP_eq (fun _ => ?_) (fun _ => ?_) | with_reducible refine condP_ne (fun _ => ?_) (fun _ => ?_) | with_reducible refine condP_not (condP_dec (fun _ => ?_) (fun _ => ?_)) | with_reducible refine condP_not (condP_eq (fun _ => ?_) (fun _ => ?_)) | with_reducible refine condP_not (condP_intro (fun _ => ?_) (fun _ => ?_)) | with_reducible refine condP_intro (fun _ => ?_) (fun _ => ?_))
  all_goals first | exact k1 | exact el_map hn rfl | rfl | omega | skip

set_option maxRecDepth 100000 in
set_option maxHeartbeats 1000000 in
theorem z17 (a b : List Iv) (x : Iv) (m : List Iv) (j : Nat) : Runs Try.prog 0 (loopN Try.prog 17 1) (St.as (J17 a b x m j b.length) 46) (.exit 2) (St.as (J17 a b x m j b.length) 46) := by
  refine round_wp (p := condP (decide ((↑b.length : Int) < (↑b.length : Int))) (False) ((AV.d (D.sl (List.map ivD b)) = AV.d (D.sl (List.map ivD b))) ∧ ((AV.own (0 : Nat) (2 : Nat) = AV.own (0 : Nat) (2 : Nat)) ∧ ((AV.ptr (1 : Nat) (0 : Nat) = AV.ptr (1 : Nat) (0 : Nat)) ∧ ((AV.d (D.sl (List.map ivD a)) = AV.d (D.sl (List.map ivD a))) ∧ ((AV.d (D.int IntKind.i64 (↑a.length : Int)) = AV.d (D.int IntKind.i64 (↑a.length : Int))) ∧ ((AV.d (D.int IntKind.i64 (↑j : Int)) = AV.d (D.int IntKind.i64 (↑j : Int))) ∧ ((AV.d (D.sl (List.map ivD b)) = AV.d (D.sl (List.map ivD b))) ∧ ((AV.d (D.int IntKind.i64 (↑b.length : Int)) = AV.d (D.int IntKind.i64 (↑b.length : Int))) ∧ ((AV.d (D.int IntKind.i64 (↑b.length : Int)) = AV.d (D.int IntKind.i64 (↑b.length : Int))) ∧ ((Ob.row (2 : Nat) (List.map ivD m) = Ob.row (2 : Nat) (List.map ivD m)) ∧ ((Ob.box [AV.d (D.int IntKind.i64 x.fst), AV.d (D.int IntKind.i64 x.snd)] = Ob.box [AV.d (D.int IntKind.i64 x.fst), AV.d (D.int IntKind.i64 x.snd)]) ∧ (True))))))))))))) (h := {}) (subs := []) (ws := []) (ρ := []) (by kernel_rfl) ?_
  repeat' (first | with_reducible exact True.intro | with_reducible refine And.intro ?_ ?_ | with_reducible refine condP_dec (fun _ => ?_) (fun _ => ?_) | with_reducible refine condP_eq (fun _ => ?_) (fun _ => ?_) | with_reducible refine condP_ne (fun _ => ?_) (fun _ => ?_) | with_reducible refine condP_not (condP_dec (fun _ => ?_) (fun _ => ?_)) | with_reducible refine condP_not (condP_eq (fun _ => ?_) (fun _ => ?_)) | with_reducible refine condP_not (condP_intro (fun _ => ?_) (fun _ => ?_)) | with_reducible refine condP_intro (fun _ => ?_) (fun _ => ?_))
  all_goals first | rfl | omega

set_option maxRecDepth 100000 in
set_option maxHeartbeats 1000000 in
theorem r17 (a b : List Iv) (ha : a.length < 1000000) (m m' : List Iv) (j : Nat) (x : Iv) (hn : a[j]? = some x) (hL : Loops Try.prog 0 (loopN Try.prog 17 1) ((J17 a b x m j 0).as 46) (.exit 2) ((J17 a b x m' j b.length).as 46)) : Runs Try.prog 0 (loopN Try.prog 17 0) (St.as (I17 a b m j) 46) (.normal) (St.as (I17 a b m' (j+1)) 46) := by
  refine round_wp (p := condP (decide ((↑j : Int) < (↑a.length : Int))) (((0 : Int) ≤ (↑j : Int)) ∧ (((List.map ivD a)[(↑j : Int).toNat]? = some (D.agg [D.int IntKind.i64 x.fst, D.int IntKind.i64 x.snd])) ∧ ((AV.d (D.sl (List.map ivD b)) = AV.d (D.sl (List.map ivD b))) ∧ ((AV.own (0 : Nat) (2 : Nat) = AV.own (0 : Nat) (2 : Nat)) ∧ ((AV.ptr (1056 : Nat) (0 : Nat) = AV.ptr (1056 : Nat) (0 : Nat)) ∧ ((AV.d (D.sl (List.map ivD a)) = AV.d (D.sl (List.map ivD a))) ∧ ((AV.d (D.int IntKind.i64 (↑a.length : Int)) = AV.d (D.int IntKind.i64 (↑a.length : Int))) ∧ ((AV.d (D.int IntKind.i64 (↑j : Int)) = AV.d (D.int IntKind.i64 (↑j : Int))) ∧ ((AV.d (D.sl (List.map ivD b)) = AV.d (D.sl (List.map ivD b))) ∧ ((AV.d (D.int IntKind.i64 (↑(List.map ivD b).length : Int)) = AV.d (D.int IntKind.i64 (↑b.length : Int))) ∧ ((AV.d (D.int IntKind.i64 (0 : Int)) = AV.d (D.int IntKind.i64 (0 : Int))) ∧ ((Ob.row (2 : Nat) (List.map ivD m) = Ob.row (2 : Nat) (List.map ivD m)) ∧ ((Ob.box [AV.d (D.int IntKind.i64 x.fst), AV.d (D.int IntKind.i64 x.snd)] = Ob.box [AV.d (D.int IntKind.i64 x.fst), AV.d (D.int IntKind.i64 x.snd)]) ∧ ((LoopsS Try.prog (0 : Nat) (loopN Try.prog (17 : Nat) (1 : Nat)) (J17 a b x m j (0 : Nat)) (Exit.exit (2 : Nat)) (J17 a b x m' j b.length) (46 : Nat)) ∧ ((AV.d (D.sl (List.map ivD b)) = AV.d (D.sl (List.map ivD b))) ∧ ((AV.own (0 : Nat) (2 : Nat) = AV.own (0 : Nat) (2 : Nat)) ∧ ((AV.d (D.sl (List.map ivD a)) = AV.d (D.sl (List.map ivD a))) ∧ ((AV.d (D.int IntKind.i64 (↑a.length : Int)) = AV.d (D.int IntKind.i64 (↑a.length : Int))) ∧ ((AV.d (D.int IntKind.i64 (IntKind.i64.wrap ((↑j : Int) + (1 : Int)))) = AV.d (D.int IntKind.i64 (↑(j + (1 : Nat)) : Int))) ∧ ((Ob.row (2 : Nat) (List.map ivD m') = Ob.row (2 : Nat) (List.map ivD m')) ∧ (True))))))))))))))))))))) (False)) (h := {els := [(18, .el (ivD x))]}) (subs := [⟨[], [], J17 a b x m j 0, .exit 2, J17 a b x m' j b.length⟩]) (ws := []) (ρ := []) (by kernel_rfl) ?_
  have hj := get_lt hn
  have hi := inc_i64 (j := j) (by omega)
  simp only [hi, List.length_map]
  refine condP_t (by rw [decide_eq_true_eq]; omega) ?_
  repeat' (first | with_reducible exact True.intro | with_reducible refine And.intro ?_ ?_ | with_reducible refine condP_dec (fun _ => ?_) (fun _ => ?_) | with_reducible refine condP_eq (fun _ => ?_) (fun _ => ?_) | with_reducible refine condP_ne (fun _ => ?_) (fun _ => ?_) | with_reducible refine condP_not (condP_dec (fun _ => ?_) (fun _ => ?_)) | with_reducible refine condP_not (condP_eq (fun _ => ?_) (fun _ => ?_)) | with_reducible refine condP_not (condP_intro (fun _ => ?_) (fun _ => ?_)) | with_reducible refine condP_intro (fun _ => ?_) (fun _ => ?_))
  all_goals first | exact hL | exact el_map hn rfl | rfl | omega | skip

set_option maxRecDepth 100000 in
set_option maxHeartbeats 1000000 in
theorem q17 (a b m : List Iv) : Runs Try.prog 0 (loopN Try.prog 17 0) (St.as (I17 a b m a.length) 46) (.exit 0) (St.as (I17 a b m a.length) 46) := by
  refine round_wp (p := condP (decide ((↑a.length : Int) < (↑a.length : Int))) (False) ((AV.d (D.sl (List.map ivD b)) = AV.d (D.sl (List.map ivD b))) ∧ ((AV.own (0 : Nat) (2 : Nat) = AV.own (0 : Nat) (2 : Nat)) ∧ ((AV.d (D.sl (List.map ivD a)) = AV.d (D.sl (List.map ivD a))) ∧ ((AV.d (D.int IntKind.i64 (↑a.length : Int)) = AV.d (D.int IntKind.i64 (↑a.length : Int))) ∧ ((AV.d (D.int IntKind.i64 (↑a.length : Int)) = AV.d (D.int IntKind.i64 (↑a.length : Int))) ∧ ((Ob.row (2 : Nat) (List.map ivD m) = Ob.row (2 : Nat) (List.map ivD m)) ∧ (True)))))))) (h := {}) (subs := []) (ws := []) (ρ := []) (by kernel_rfl) ?_
  repeat' (first | with_reducible exact True.intro | with_reducible refine And.intro ?_ ?_ | with_reducible refine condP_dec (fun _ => ?_) (fun _ => ?_) | with_reducible refine condP_eq (fun _ => ?_) (fun _ => ?_) | with_reducible refine condP_ne (fun _ => ?_) (fun _ => ?_) | with_reducible refine condP_not (condP_dec (fun _ => ?_) (fun _ => ?_)) | with_reducible refine condP_not (condP_eq (fun _ => ?_) (fun _ => ?_)) | with_reducible refine condP_not (condP_intro (fun _ => ?_) (fun _ => ?_)) | with_reducible refine condP_intro (fun _ => ?_) (fun _ => ?_))
  all_goals first | rfl | omega

set_option maxRecDepth 100000 in
set_option maxHeartbeats 1000000 in
theorem meet17n (a b : List Iv) (ha : a.length < 400000) (hb : b.length < 400000) (h : (!(iChk a == 0) || !(iChk b == 0)) = true) : FnOK Try.prog 17 ([.d (.sl (a.map ivD)), .d (.sl (b.map ivD))]) ([]) (.d (.sl [])) ([]) := by
  refine fnOK_wp (p := condP (iChk a != (0 : Int)) ((FnOK Try.prog (19 : Nat) [AV.d (D.sl (List.map ivD a))] [] (AV.d (D.int IntKind.i64 (iChk a))) []) ∧ ((D.bool (iChk a != (0 : Int)) = D.bool true) ∧ ((D.bool true = D.bool true) ∧ ((AV.d (D.sl []) = AV.d (D.sl [])) ∧ (True))))) ((FnOK Try.prog (19 : Nat) [AV.d (D.sl (List.map ivD a))] [] (AV.d (D.int IntKind.i64 (iChk a))) []) ∧ ((D.bool (iChk a != (0 : Int)) = D.bool false) ∧ ((FnOK Try.prog (19 : Nat) [AV.d (D.sl (List.map ivD b))] [] (AV.d (D.int IntKind.i64 (iChk b))) []) ∧ ((D.bool (iChk b != (0 : Int)) = D.bool true) ∧ ((AV.d (D.sl []) = AV.d (D.sl [])) ∧ (True))))))) (h := {H := [(1, [(1, .call [] (.d (.int .i64 (iChk a))) []), (5, .call [] (.d (.int .i64 (iChk b))) []), (7, .val (.bool true))])]}) (subs := []) (ws := []) (ρ := []) (by kernel_rfl) ?_
  have k1 := chk19 a (by omega)
  have k2 := chk19 b (by omega)
  have k3 := h
  have k4 := True.intro
  have hL := True.intro
  repeat' (first | with_reducible exact True.intro | with_reducible refine And.intro ?_ ?_ | with_reducible refine condP_dec (fun _ => ?_) (fun _ => ?_) | with_reducible refine condP_eq (fun _ => ?_) (fun _ => ?_) | with_reducible refine condP_ne (fun _ => ?_) (fun _ => ?_) | with_reducible refine condP_not (condP_dec (fun _ => ?_) (fun _ => ?_)) | with_reducible refine condP_not (condP_eq (fun _ => ?_) (fun _ => ?_)) | with_reducible refine condP_not (condP_intro (fun _ => ?_) (fun _ => ?_)) | with_reducible refine condP_intro (fun _ => ?_) (fun _ => ?_))
  all_goals first | exact k1 | exact k2 | exact k3 | exact k4 | exact k5 | exact hL | rfl | exact dyes ‹_› | exact dno ‹_› | (refine congrArg D.bool ?_; assumption) | (refine congrArg D.bool ?_; simp_all; done) | (exfalso; simp_all; done) | skip

set_option maxRecDepth 100000 in
set_option maxHeartbeats 1000000 in
theorem meet17y (a b : List Iv) (ha : a.length < 400000) (hb : b.length < 400000) (h1 : iChk a = 0) (h2 : iChk b = 0) (m : List Iv) (hL : Loops Try.prog 0 (loopN Try.prog 17 0) ((I17 a b [] 0).as 46) (.exit 0) ((I17 a b m a.length).as 46)) : FnOK Try.prog 17 ([.d (.sl (a.map ivD)), .d (.sl (b.map ivD))]) ([]) (.d (.sl (m.map ivD))) ([]) := by
  refine fnOK_wp (p := (FnOK Try.prog (19 : Nat) [AV.d (D.sl (List.map ivD a))] [] (AV.d (D.int IntKind.i64 (0 : Int))) []) ∧ ((D.bool false = D.bool false) ∧ ((FnOK Try.prog (19 : Nat) [AV.d (D.sl (List.map ivD b))] [] (AV.d (D.int IntKind.i64 (0 : Int))) []) ∧ ((AV.d (D.sl (List.map ivD b)) = AV.d (D.sl (List.map ivD b))) ∧ ((AV.own (900 : Nat) (2 : Nat) = AV.own (900 : Nat) (2 : Nat)) ∧ ((AV.d (D.sl (List.map ivD a)) = AV.d (D.sl (List.map ivD a))) ∧ ((AV.d (D.int IntKind.i64 (↑(List.map ivD a).length : Int)) = AV.d (D.int IntKind.i64 (↑a.length : Int))) ∧ ((AV.d (D.int IntKind.i64 (0 : Int)) = AV.d (D.int IntKind.i64 (0 : Int))) ∧ ((Ob.row (2 : Nat) [] = Ob.row (2 : Nat) []) ∧ ((LoopsS Try.prog (0 : Nat) (loopN Try.prog (17 : Nat) (0 : Nat)) (I17 a b [] (0 : Nat)) (Exit.exit (0 : Nat)) (I17 a b m a.length) (46 : Nat)) ∧ ((AV.d (D.sl (List.map ivD m)) = AV.d (D.sl (List.map ivD m))) ∧ (True)))))))))))) (h := {G := [(19, gAns (.d (.int .i64 0)))]}) (subs := [⟨[], [], I17 a b [] 0, .exit 0, I17 a b m a.length⟩]) (ws := []) (ρ := []) (by kernel_rfl) ?_
  have k1 := chk19 a (by omega)
  have k2 := chk19 b (by omega)
  rw [h1] at k1
  rw [h2] at k2
  simp only [List.length_map]
  repeat' (first | with_reducible exact True.intro | with_reducible refine And.intro ?_ ?_ | with_reducible refine condP_dec (fun _ => ?_) (fun _ => ?_) | with_reducible refine condP_eq (fun _ => ?_) (fun _ => ?_) | with_reducible refine condP_ne (fun _ => ?_) (fun _ => ?_) | with_reducible refine condP_not (condP_dec (fun _ => ?_) (fun _ => ?_)) | with_reducible refine condP_not (condP_eq (fun _ => ?_) (fun _ => ?_)) | with_reducible refine condP_not (condP_intro (fun _ => ?_) (fun _ => ?_)) | with_reducible refine condP_intro (fun _ => ?_) (fun _ => ?_))
  all_goals first | exact k1 | exact k2 | exact hL | rfl | omega | skip

def rMeet (a b : List Iv) : List Iv := if (!(iChk a == 0) || !(iChk b == 0)) = true then [] else pMeet a b
theorem meet17 (a b : List Iv) (ha : a.length < 400) (hb : b.length < 400) : FnOK Try.prog 17 [.d (.sl (a.map ivD)), .d (.sl (b.map ivD))] [] (.d (.sl ((rMeet a b).map ivD))) [] := by
  unfold rMeet
  cases hn : (!(iChk a == 0) || !(iChk b == 0))
  · rw [if_neg (by simp)]
    simp only [Bool.or_eq_false_iff, Bool.not_eq_false', beq_iff_eq] at hn
    refine meet17y a b (by omega) (by omega) hn.1 hn.2 _ ?_
    have h := loops_n (P := Try.prog) (k := 0) (c := loopN Try.prog 17 0) (e := .exit 0) (I := fun j => (I17 a b ((a.take j).foldl (fun m x => b.foldl (stM x) m) []) j).as 46) (by simp) a.length 0 (by omega) (fun j _ hj => ?_) (by simp only [List.take_length]; exact q17 a b (pMeet a b))
    · exact h
    · have hn := get_of hj
      have hl := pMeet_len b (a.take j) []
      have hm : (a.take j).length * b.length ≤ 400 * 400 := Nat.mul_le_mul (by rw [List.length_take]; omega) (by omega)
      simp only [List.length_nil] at hl
      show Runs _ _ _ _ _ ((I17 a b ((a.take (j + 1)).foldl (fun m x => b.foldl (stM x) m) []) (j + 1)).as _)
      rw [take_snoc hn, List.foldl_append]
      generalize (a.take j).foldl (fun m x => b.foldl (stM x) m) [] = m at *
      refine r17 a b (by omega) m _ j _ hn ?_
      have h := loops_n (P := Try.prog) (k := 0) (c := loopN Try.prog 17 1) (e := .exit 2) (I := fun i => (J17 a b a[j] ((b.take i).foldl (stM a[j]) m) j i).as 46) (by simp) b.length 0 (by omega) (fun i _ hi => ?_) (by simp only [List.take_length]; exact z17 a b _ (b.foldl (stM a[j]) m) j)
      · exact h
      · have hni := get_of hi
        have hl2 := stM_len a[j] (b.take i) m
        have : (b.take i).length ≤ 400 := by rw [List.length_take]; omega
        show Runs _ _ _ _ _ ((J17 a b a[j] ((b.take (i + 1)).foldl (stM a[j]) m) j (i + 1)).as _)
        rw [take_snoc hni, List.foldl_append]
        exact s17 a b (by omega) _ _ (by omega) j i _ hni
  · rw [if_pos rfl]; exact meet17n a b (by omega) (by omega) hn
end Go.Proofs.Ytkfiojolgkfbcaa
