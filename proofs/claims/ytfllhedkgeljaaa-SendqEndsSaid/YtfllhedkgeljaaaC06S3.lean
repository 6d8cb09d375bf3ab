/-
laws 06: the program's Add.
-/
import Derived.Test.YtfllhedkgeljaaaC06S2
import Derived.Test.YtfllhedkgeljaaaC06RH
set_option linter.unusedSimpArgs false
set_option linter.unusedVariables false
namespace Go.Proofs.Ytfllhedkgeljaaa.C06
open Sx Go.RowKit

def stA (x : Iv) (p : List Iv × Bool) (y : Iv) : List Iv × Bool := if p.2 = false ∧ x.1 ≤ y.1 then (pPut (pPut p.1 x) y, true) else (pPut p.1 y, p.2)
def pAddF (s : List Iv) (x : Iv) : List Iv × Bool := s.foldl (stA x) ([], false)
def pAdd (s : List Iv) (x : Iv) : List Iv := if (pAddF s x).2 = true then (pAddF s x).1 else pPut (pAddF s x).1 x
theorem pPut_len (l : List Iv) (x : Iv) : (pPut l x).length ≤ l.length + 1 := by
  by_cases h : x.2 ≤ x.1
  · rw [pPut_none h]; omega
  · rcases List.eq_nil_or_concat l with rfl | ⟨l, z, rfl⟩
    · rw [pPut_nil h]; simp
    · rw [List.concat_eq_append]
      by_cases g : z.2 ≥ x.1
      · rw [pPut_t h g]; simp
      · rw [pPut_n h g]; simp
theorem stA_len (x : Iv) (p : List Iv × Bool) (y : Iv) : (stA x p y).1.length ≤ p.1.length + 2 := by
  unfold stA
  split
  · have := pPut_len (pPut p.1 x) y
    have := pPut_len p.1 x
    show (pPut (pPut p.1 x) y).length ≤ _
    omega
  · have := pPut_len p.1 y
    show (pPut p.1 y).length ≤ _
    omega
theorem fold_len (x : Iv) : ∀ (s : List Iv) (p : List Iv × Bool), (s.foldl (stA x) p).1.length ≤ p.1.length + 2 * s.length
  | [], p => by simp
  | y :: s, p => by
    have := fold_len x s (stA x p y)
    have := stA_len x p y
    rw [List.foldl_cons, List.length_cons]
    omega
def ivB (x : Iv) : Ob := .box [.d (.int .i64 x.1), .d (.int .i64 x.2)]
def I11 (s : List Iv) (x : Iv) (m : List Iv) (q : Bool) (j : Nat) : St := ⟨[(3, .ptr 0 0), (5, .own 1 2), (6, .d (.bool q)), (23, .d (.sl (s.map ivD))), (24, .d (.int .i64 s.length)), (25, .d (.int .i64 j))], [(0, ivB x), (1, .row 2 (m.map ivD))]⟩
set_option maxRecDepth 100000 in
set_option maxHeartbeats 1000000 in
theorem r11a (s : List Iv) (hs : s.length < 400000) (x : Iv) (m : List Iv) (hm : m.length < 900000) (j : Nat) (y : Iv) (hn : s[j]? = some y) (h : x.1 ≤ y.1) : Runs Try.prog 0 (loopN Try.prog 32 0) (St.as (I11 s x m false j) 51) (.normal) (St.as (I11 s x (pPut (pPut m x) y) true (j+1)) 51) := by
  refine round_wp (p := condP (decide ((↑j : Int) < (↑s.length : Int))) (((0 : Int) ≤ (↑j : Int)) ∧ (((List.map ivD s)[(↑j : Int).toNat]? = some (D.agg [D.int .i64 y.fst, D.int .i64 y.snd])) ∧ ((D.bool true = D.bool true) ∧ ((D.bool (decide (x.fst ≤ y.fst)) = D.bool true) ∧ ((FnOK Try.prog 69 [AV.own 0 2, AV.d (.agg [D.int .i64 x.fst, D.int .i64 x.snd])] [Ob.row 2 (List.map ivD m)] (AV.own 1 2) [Ob.gone, Ob.row 2 (List.map ivD (pPut m x))]) ∧ ((FnOK Try.prog 69 [AV.own 0 2, AV.d (.agg [D.int .i64 y.fst, D.int .i64 y.snd])] [Ob.row 2 (List.map ivD (pPut m x))] (AV.own 1 2) [Ob.gone, Ob.row 2 (List.map ivD (pPut (pPut m x) y))]) ∧ ((AV.ptr 0 0 = AV.ptr 0 0) ∧ ((AV.own 1344 2 = AV.own 1344 2) ∧ ((AV.d (.bool true) = AV.d (.bool true)) ∧ ((AV.d (.sl (List.map ivD s)) = AV.d (.sl (List.map ivD s))) ∧ ((AV.d (.int .i64 (↑s.length : Int)) = AV.d (.int .i64 (↑s.length : Int))) ∧ ((AV.d (.int .i64 (IntKind.i64.wrap ((↑j : Int) + (1 : Int)))) = AV.d (.int .i64 (↑(j + 1) : Int))) ∧ ((Ob.box [AV.d (.int .i64 x.fst), AV.d (.int .i64 x.snd)] = Ob.box [AV.d (.int .i64 x.fst), AV.d (.int .i64 x.snd)]) ∧ ((Ob.row 2 (List.map ivD (pPut (pPut m x) y)) = Ob.row 2 (List.map ivD (pPut (pPut m x) y))) ∧ (True))))))))))))))) (False)) (h := {els := [(23, .el (ivD y))], H := [(8, [(7, .val (.bool true))]), (9, [(2, .call [1] (.own 1 2) [.gone, .row 2 ((pPut m x).map ivD)])]), (11, [(2, .call [1320] (.own 1 2) [.gone, .row 2 ((pPut (pPut m x) y).map ivD)])])]}) (subs := []) (ws := []) (ρ := []) (by kernel_rfl) ?_
  have hj := get_lt hn
  have hi := inc_i64 (j := j) (by omega)
  have k1 := put33 m (by omega) x
  have k2 := put33 m (by omega) y
  have hl := pPut_len m x
  have k3 := put33 (pPut m x) (by omega) y
  simp only [hi]
  refine condP_t (by rw [decide_eq_true_eq]; omega) ?_
  repeat' (with_reducible first | exact True.intro | apply And.intro | (first | apply zA | apply zB | apply zC | apply zD | apply zE | apply zF | apply zG) <;> intro)
  all_goals first | exact k1 | exact k2 | exact k3 | exact el_map hn rfl | rfl | omega | exact dyes (by omega) | exact dno (by omega) | skip

set_option maxRecDepth 100000 in
set_option maxHeartbeats 1000000 in
theorem r11b (s : List Iv) (hs : s.length < 400000) (x : Iv) (m : List Iv) (hm : m.length < 900000) (j : Nat) (y : Iv) (hn : s[j]? = some y) (h : ¬x.1 ≤ y.1) : Runs Try.prog 0 (loopN Try.prog 32 0) (St.as (I11 s x m false j) 51) (.normal) (St.as (I11 s x (pPut m y) false (j+1)) 51) := by
  refine round_wp (p := condP (decide ((↑j : Int) < (↑s.length : Int))) (((0 : Int) ≤ (↑j : Int)) ∧ (((List.map ivD s)[(↑j : Int).toNat]? = some (D.agg [D.int .i64 y.fst, D.int .i64 y.snd])) ∧ ((D.bool true = D.bool true) ∧ ((D.bool (decide (x.fst ≤ y.fst)) = D.bool false) ∧ ((FnOK Try.prog 69 [AV.own 0 2, AV.d (.agg [D.int .i64 y.fst, D.int .i64 y.snd])] [Ob.row 2 (List.map ivD m)] (AV.own 1 2) [Ob.gone, Ob.row 2 (List.map ivD (pPut m y))]) ∧ ((AV.ptr 0 0 = AV.ptr 0 0) ∧ ((AV.own 1344 2 = AV.own 1344 2) ∧ ((AV.d (.bool false) = AV.d (.bool false)) ∧ ((AV.d (.sl (List.map ivD s)) = AV.d (.sl (List.map ivD s))) ∧ ((AV.d (.int .i64 (↑s.length : Int)) = AV.d (.int .i64 (↑s.length : Int))) ∧ ((AV.d (.int .i64 (IntKind.i64.wrap ((↑j : Int) + (1 : Int)))) = AV.d (.int .i64 (↑(j + 1) : Int))) ∧ ((Ob.box [AV.d (.int .i64 x.fst), AV.d (.int .i64 x.snd)] = Ob.box [AV.d (.int .i64 x.fst), AV.d (.int .i64 x.snd)]) ∧ ((Ob.row 2 (List.map ivD (pPut m y)) = Ob.row 2 (List.map ivD (pPut m y))) ∧ (True)))))))))))))) (False)) (h := {els := [(23, .el (ivD y))], H := [(8, [(7, .val (.bool false))]), (11, [(2, .call [1] (.own 1 2) [.gone, .row 2 ((pPut m y).map ivD)])])]}) (subs := []) (ws := []) (ρ := []) (by kernel_rfl) ?_
  have hj := get_lt hn
  have hi := inc_i64 (j := j) (by omega)
  have k1 := put33 m (by omega) x
  have k2 := put33 m (by omega) y
  have hl := pPut_len m x
  have k3 := put33 (pPut m x) (by omega) y
  simp only [hi]
  refine condP_t (by rw [decide_eq_true_eq]; omega) ?_
  repeat' (with_reducible first | exact True.intro | apply And.intro | (first | apply zA | apply zB | apply zC | apply zD | apply zE | apply zF | apply zG) <;> intro)
  all_goals first | exact k1 | exact k2 | exact k3 | exact el_map hn rfl | rfl | omega | exact dyes (by omega) | exact dno (by omega) | skip

set_option maxRecDepth 100000 in
set_option maxHeartbeats 1000000 in
theorem r11c (s : List Iv) (hs : s.length < 400000) (x : Iv) (m : List Iv) (hm : m.length < 900000) (j : Nat) (y : Iv) (hn : s[j]? = some y) : Runs Try.prog 0 (loopN Try.prog 32 0) (St.as (I11 s x m true j) 51) (.normal) (St.as (I11 s x (pPut m y) true (j+1)) 51) := by
  refine round_wp (p := condP (decide ((↑j : Int) < (↑s.length : Int))) (((0 : Int) ≤ (↑j : Int)) ∧ (((List.map ivD s)[(↑j : Int).toNat]? = some (D.agg [D.int .i64 y.fst, D.int .i64 y.snd])) ∧ ((D.bool false = D.bool false) ∧ ((FnOK Try.prog 69 [AV.own 0 2, AV.d (.agg [D.int .i64 y.fst, D.int .i64 y.snd])] [Ob.row 2 (List.map ivD m)] (AV.own 1 2) [Ob.gone, Ob.row 2 (List.map ivD (pPut m y))]) ∧ ((AV.ptr 0 0 = AV.ptr 0 0) ∧ ((AV.own 1344 2 = AV.own 1344 2) ∧ ((AV.d (.bool true) = AV.d (.bool true)) ∧ ((AV.d (.sl (List.map ivD s)) = AV.d (.sl (List.map ivD s))) ∧ ((AV.d (.int .i64 (↑s.length : Int)) = AV.d (.int .i64 (↑s.length : Int))) ∧ ((AV.d (.int .i64 (IntKind.i64.wrap ((↑j : Int) + (1 : Int)))) = AV.d (.int .i64 (↑(j + 1) : Int))) ∧ ((Ob.box [AV.d (.int .i64 x.fst), AV.d (.int .i64 x.snd)] = Ob.box [AV.d (.int .i64 x.fst), AV.d (.int .i64 x.snd)]) ∧ ((Ob.row 2 (List.map ivD (pPut m y)) = Ob.row 2 (List.map ivD (pPut m y))) ∧ (True))))))))))))) (False)) (h := {els := [(23, .el (ivD y))], H := [(11, [(2, .call [1] (.own 1 2) [.gone, .row 2 ((pPut m y).map ivD)])])]}) (subs := []) (ws := []) (ρ := []) (by kernel_rfl) ?_
  have hj := get_lt hn
  have hi := inc_i64 (j := j) (by omega)
  have k1 := put33 m (by omega) x
  have k2 := put33 m (by omega) y
  have hl := pPut_len m x
  have k3 := put33 (pPut m x) (by omega) y
  simp only [hi]
  refine condP_t (by rw [decide_eq_true_eq]; omega) ?_
  repeat' (with_reducible first | exact True.intro | apply And.intro | (first | apply zA | apply zB | apply zC | apply zD | apply zE | apply zF | apply zG) <;> intro)
  all_goals first | exact k1 | exact k2 | exact k3 | exact el_map hn rfl | rfl | omega | exact dyes (by omega) | exact dno (by omega) | skip

set_option maxRecDepth 100000 in
set_option maxHeartbeats 1000000 in
theorem q11 (s : List Iv) (x : Iv) (m : List Iv) (q : Bool) : Runs Try.prog 0 (loopN Try.prog 32 0) (St.as (I11 s x m q s.length) 51) (.exit 0) (St.as (I11 s x m q s.length) 51) := by
  refine round_wp (p := condP (decide ((↑s.length : Int) < (↑s.length : Int))) (False) ((AV.ptr 0 0 = AV.ptr 0 0) ∧ ((AV.own 1 2 = AV.own 1 2) ∧ ((AV.d (.bool q) = AV.d (.bool q)) ∧ ((AV.d (.sl (List.map ivD s)) = AV.d (.sl (List.map ivD s))) ∧ ((AV.d (.int .i64 (↑s.length : Int)) = AV.d (.int .i64 (↑s.length : Int))) ∧ ((AV.d (.int .i64 (↑s.length : Int)) = AV.d (.int .i64 (↑s.length : Int))) ∧ ((Ob.box [AV.d (.int .i64 x.fst), AV.d (.int .i64 x.snd)] = Ob.box [AV.d (.int .i64 x.fst), AV.d (.int .i64 x.snd)]) ∧ ((Ob.row 2 (List.map ivD m) = Ob.row 2 (List.map ivD m)) ∧ (True)))))))))) (h := {}) (subs := []) (ws := []) (ρ := []) (by kernel_rfl) ?_
  repeat' (with_reducible first | exact True.intro | apply And.intro | (first | apply zA | apply zB | apply zC | apply zD | apply zE | apply zF | apply zG) <;> intro)
  all_goals first | rfl | omega

/-- Where nothing is done. -/
def nop (s : List Iv) (x : Iv) : Bool := !mayB x || (noneB x || !(iChk s == 0))
set_option maxRecDepth 100000 in
set_option maxHeartbeats 1000000 in
theorem add11n (s : List Iv) (hs : s.length < 400000) (x : Iv) (k5 : True) (hL : True) (h : nop s x = true) : FnOK Try.prog 32 ([.d (.sl (s.map ivD)), .d (ivD x)]) ([]) (.d (.sl (s.map ivD))) ([]) := by
  refine fnOK_wp (p := condP (!mayB x) ((FnOK Try.prog 65 [AV.d (.agg [D.int .i64 x.fst, D.int .i64 x.snd])] [] (AV.d (.bool (mayB x))) []) ∧ (((D.bool !mayB x) = D.bool true) ∧ ((D.bool true = D.bool true) ∧ ((D.bool true = D.bool true) ∧ ((FnOK Try.prog 68 [AV.d (.sl (List.map ivD s))] [] (AV.own 0 2) [Ob.row 2 (List.map ivD s)]) ∧ ((AV.d (.sl (List.map ivD s)) = AV.d (.sl (List.map ivD s))) ∧ (True))))))) (condP (noneB x) ((FnOK Try.prog 65 [AV.d (.agg [D.int .i64 x.fst, D.int .i64 x.snd])] [] (AV.d (.bool (mayB x))) []) ∧ (((D.bool !mayB x) = D.bool false) ∧ ((FnOK Try.prog 66 [AV.d (.agg [D.int .i64 x.fst, D.int .i64 x.snd])] [] (AV.d (.bool (noneB x))) []) ∧ ((D.bool (noneB x) = D.bool true) ∧ ((D.bool true = D.bool true) ∧ ((FnOK Try.prog 68 [AV.d (.sl (List.map ivD s))] [] (AV.own 0 2) [Ob.row 2 (List.map ivD s)]) ∧ ((AV.d (.sl (List.map ivD s)) = AV.d (.sl (List.map ivD s))) ∧ (True)))))))) ((FnOK Try.prog 65 [AV.d (.agg [D.int .i64 x.fst, D.int .i64 x.snd])] [] (AV.d (.bool (mayB x))) []) ∧ (((D.bool !mayB x) = D.bool false) ∧ ((FnOK Try.prog 66 [AV.d (.agg [D.int .i64 x.fst, D.int .i64 x.snd])] [] (AV.d (.bool (noneB x))) []) ∧ ((D.bool (noneB x) = D.bool false) ∧ ((FnOK Try.prog 67 [AV.d (.sl (List.map ivD s))] [] (AV.d (.int .i64 (iChk s))) []) ∧ ((D.bool (iChk s != (0 : Int)) = D.bool true) ∧ ((FnOK Try.prog 68 [AV.d (.sl (List.map ivD s))] [] (AV.own 0 2) [Ob.row 2 (List.map ivD s)]) ∧ ((AV.d (.sl (List.map ivD s)) = AV.d (.sl (List.map ivD s))) ∧ (True))))))))))) (h := {G := [(65, gAns (.d (.bool (mayB x)))), (66, gAns (.d (.bool (noneB x)))), (67, gAns (.d (.int .i64 (iChk s))))], H := [(1, [(11, .val (.bool true))]), (2, [(1, .call [] (.own 0 2) [.row 2 (s.map ivD)])])]}) (subs := []) (ws := []) (ρ := []) (by kernel_rfl) ?_
  unfold nop at h
  have k1 := may30 x
  have k2 := none31 x
  have k3 := chk19 s (by omega)
  have k4 := ivD_clone s (by omega)
  repeat' (with_reducible first | exact True.intro | apply And.intro | (first | apply zA | apply zB | apply zC | apply zD | apply zE | apply zF | apply zG) <;> intro)
  all_goals first | exact k1 | exact k2 | exact k3 | exact k4 | exact k5 | exact hL | rfl | exact dyes ‹_› | exact dno ‹_› | (refine congrArg D.bool ?_; assumption) | (refine congrArg D.bool ?_; simp_all; done) | (exfalso; simp_all; done) | skip

set_option maxRecDepth 100000 in
set_option maxHeartbeats 1000000 in
theorem add11t (s : List Iv) (hs : s.length < 400000) (x : Iv) (h1 : mayB x = true) (h2 : noneB x = false) (h3 : iChk s = 0) (k5 : True) (m : List Iv) (hL : Loops Try.prog 0 (loopN Try.prog 32 0) ((I11 s x [] false 0).as 51) (.exit 0) ((I11 s x m true s.length).as 51)) : FnOK Try.prog 32 ([.d (.sl (s.map ivD)), .d (ivD x)]) ([]) (.d (.sl (m.map ivD))) ([]) := by
  refine fnOK_wp (p := (FnOK Try.prog 65 [AV.d (.agg [D.int .i64 x.fst, D.int .i64 x.snd])] [] (AV.d (.bool true)) []) ∧ ((D.bool false = D.bool false) ∧ ((FnOK Try.prog 66 [AV.d (.agg [D.int .i64 x.fst, D.int .i64 x.snd])] [] (AV.d (.bool false)) []) ∧ ((D.bool false = D.bool false) ∧ ((FnOK Try.prog 67 [AV.d (.sl (List.map ivD s))] [] (AV.d (.int .i64 (0 : Int))) []) ∧ ((AV.ptr 1024 0 = AV.ptr 1024 0) ∧ ((AV.own 901 2 = AV.own 901 2) ∧ ((AV.d (.bool false) = AV.d (.bool false)) ∧ ((AV.d (.sl (List.map ivD s)) = AV.d (.sl (List.map ivD s))) ∧ ((AV.d (.int .i64 (↑(List.map ivD s).length : Int)) = AV.d (.int .i64 (↑s.length : Int))) ∧ ((AV.d (.int .i64 (0 : Int)) = AV.d (.int .i64 (0 : Int))) ∧ ((Ob.box [AV.d (.int .i64 x.fst), AV.d (.int .i64 x.snd)] = Ob.box [AV.d (.int .i64 x.fst), AV.d (.int .i64 x.snd)]) ∧ ((Ob.row 2 [] = Ob.row 2 []) ∧ ((LoopsS Try.prog 0 (loopN Try.prog 32 0) (I11 s x [] false 0) (Exit.exit 0) (I11 s x m true s.length) 51) ∧ ((AV.d (.sl (List.map ivD m)) = AV.d (.sl (List.map ivD m))) ∧ (True)))))))))))))))) (h := {G := [(65, gAns (.d (.bool true))), (66, gAns (.d (.bool false))), (67, gAns (.d (.int .i64 0)))]}) (subs := [⟨[], [], I11 s x [] false 0, .exit 0, I11 s x m true s.length⟩]) (ws := []) (ρ := []) (by kernel_rfl) ?_
  have k1 := may30 x
  have k2 := none31 x
  have k3 := chk19 s (by omega)
  rw [h1] at k1
  rw [h2] at k2
  rw [h3] at k3
  simp only [List.length_map]
  repeat' (with_reducible first | exact True.intro | apply And.intro | (first | apply zA | apply zB | apply zC | apply zD | apply zE | apply zF | apply zG) <;> intro)
  all_goals first | exact k1 | exact k2 | exact k3 | exact k5 | exact hL | rfl | omega | skip

set_option maxRecDepth 100000 in
set_option maxHeartbeats 1000000 in
theorem add11f (s : List Iv) (hs : s.length < 400000) (x : Iv) (h1 : mayB x = true) (h2 : noneB x = false) (h3 : iChk s = 0) (m m' : List Iv) (k5 : FnOK Try.prog 69 [.own 0 2, .d (ivD x)] [.row 2 (m.map ivD)] (.own 1 2) [.gone, .row 2 (m'.map ivD)]) (hL : Loops Try.prog 0 (loopN Try.prog 32 0) ((I11 s x [] false 0).as 51) (.exit 0) ((I11 s x m false s.length).as 51)) : FnOK Try.prog 32 ([.d (.sl (s.map ivD)), .d (ivD x)]) ([]) (.d (.sl (m'.map ivD))) ([]) := by
  refine fnOK_wp (p := (FnOK Try.prog 65 [AV.d (.agg [D.int .i64 x.fst, D.int .i64 x.snd])] [] (AV.d (.bool true)) []) ∧ ((D.bool false = D.bool false) ∧ ((FnOK Try.prog 66 [AV.d (.agg [D.int .i64 x.fst, D.int .i64 x.snd])] [] (AV.d (.bool false)) []) ∧ ((D.bool false = D.bool false) ∧ ((FnOK Try.prog 67 [AV.d (.sl (List.map ivD s))] [] (AV.d (.int .i64 (0 : Int))) []) ∧ ((AV.ptr 1024 0 = AV.ptr 1024 0) ∧ ((AV.own 901 2 = AV.own 901 2) ∧ ((AV.d (.bool false) = AV.d (.bool false)) ∧ ((AV.d (.sl (List.map ivD s)) = AV.d (.sl (List.map ivD s))) ∧ ((AV.d (.int .i64 (↑(List.map ivD s).length : Int)) = AV.d (.int .i64 (↑s.length : Int))) ∧ ((AV.d (.int .i64 (0 : Int)) = AV.d (.int .i64 (0 : Int))) ∧ ((Ob.box [AV.d (.int .i64 x.fst), AV.d (.int .i64 x.snd)] = Ob.box [AV.d (.int .i64 x.fst), AV.d (.int .i64 x.snd)]) ∧ ((Ob.row 2 [] = Ob.row 2 []) ∧ ((LoopsS Try.prog 0 (loopN Try.prog 32 0) (I11 s x [] false 0) (Exit.exit 0) (I11 s x m false s.length) 51) ∧ ((FnOK Try.prog 69 [AV.own 0 2, AV.d (.agg [D.int .i64 x.fst, D.int .i64 x.snd])] [Ob.row 2 (List.map ivD m)] (AV.own 1 2) [Ob.gone, Ob.row 2 (List.map ivD m')]) ∧ ((AV.d (.sl (List.map ivD m')) = AV.d (.sl (List.map ivD m'))) ∧ (True))))))))))))))))) (h := {G := [(65, gAns (.d (.bool true))), (66, gAns (.d (.bool false))), (67, gAns (.d (.int .i64 0)))], H := [(14, [(2, .call [1] (.own 1 2) [.gone, .row 2 (m'.map ivD)])])]}) (subs := [⟨[], [], I11 s x [] false 0, .exit 0, I11 s x m false s.length⟩]) (ws := []) (ρ := []) (by kernel_rfl) ?_
  have k1 := may30 x
  have k2 := none31 x
  have k3 := chk19 s (by omega)
  rw [h1] at k1
  rw [h2] at k2
  rw [h3] at k3
  simp only [List.length_map]
  repeat' (with_reducible first | exact True.intro | apply And.intro | (first | apply zA | apply zB | apply zC | apply zD | apply zE | apply zF | apply zG) <;> intro)
  all_goals first | exact k1 | exact k2 | exact k3 | exact k5 | exact hL | rfl | omega | skip

def rAdd (s : List Iv) (x : Iv) : List Iv := if nop s x = true then s else pAdd s x
theorem nop_no {s : List Iv} {x : Iv} (h : nop s x = false) : mayB x = true ∧ noneB x = false ∧ iChk s = 0 := by
  unfold nop at h
  simp only [Bool.or_eq_false_iff, Bool.not_eq_false', beq_iff_eq] at h
  exact h
theorem add11 (s : List Iv) (hs : s.length < 400000) (x : Iv) : FnOK Try.prog 32 [.d (.sl (s.map ivD)), .d (ivD x)] [] (.d (.sl ((rAdd s x).map ivD))) [] := by
  unfold rAdd
  cases hn : nop s x
  · rw [if_neg (by simp)]
    obtain ⟨h1, h2, h3⟩ := nop_no hn
    have hL : Loops Try.prog 0 (loopN Try.prog 32 0) ((I11 s x [] false 0).as 51) (.exit 0) ((I11 s x (pAddF s x).1 (pAddF s x).2 s.length).as 51) := by
      have h := loops_n (P := Try.prog) (k := 0) (c := loopN Try.prog 32 0) (e := .exit 0) (I := fun j => (I11 s x ((s.take j).foldl (stA x) ([], false)).1 ((s.take j).foldl (stA x) ([], false)).2 j).as 51) (by simp) s.length 0 (by omega) (fun j _ hj => ?_) (by simp only [List.take_length]; exact q11 s x (pAddF s x).1 (pAddF s x).2)
      · exact h
      · have hn := get_of hj
        have hl := fold_len x (s.take j) ([], false)
        rw [List.length_take] at hl
        simp only [List.length_nil] at hl
        show Runs _ _ _ _ _ ((I11 s x ((s.take (j + 1)).foldl (stA x) ([], false)).1 ((s.take (j + 1)).foldl (stA x) ([], false)).2 (j + 1)).as _)
        rw [take_snoc hn, List.foldl_append]
        show Runs _ _ _ _ _ ((I11 s x (stA x _ _).1 (stA x _ _).2 (j + 1)).as _)
        generalize (s.take j).foldl (stA x) ([], false) = p at *
        obtain ⟨m, q⟩ := p
        unfold stA
        simp only at hl ⊢
        cases q
        · by_cases g : x.1 ≤ s[j].1
          · rw [if_pos ⟨rfl, g⟩]; exact r11a s hs x m (by omega) j _ hn g
          · rw [if_neg (by simp [g])]; exact r11b s hs x m (by omega) j _ hn g
        · rw [if_neg (by simp)]; exact r11c s hs x m (by omega) j _ hn
    have hl := fold_len x s ([], false)
    simp only [List.length_nil] at hl
    unfold pAdd
    cases hq : (pAddF s x).2
    · rw [hq] at hL
      rw [if_neg (by simp)]
      exact add11f s hs x h1 h2 h3 _ _ (put33 _ (by show (s.foldl (stA x) ([], false)).1.length < _; omega) x) hL
    · rw [hq] at hL
      rw [if_pos rfl]
      exact add11t s hs x h1 h2 h3 trivial _ hL
  · rw [if_pos rfl]; exact add11n s hs x trivial trivial hn
/-! ### Cut -/
set_option maxRecDepth 100000 in
set_option maxHeartbeats 1000000 in
theorem cut13n (s : List Iv) (hs : s.length < 400000) (x : Iv) (k5 : True) (hL : True) (h : nop s x = true) : FnOK Try.prog 49 ([.d (.sl (s.map ivD)), .d (ivD x)]) ([]) (.d (.sl (s.map ivD))) ([]) := by
  refine fnOK_wp (p := condP (!mayB x) ((FnOK Try.prog 65 [AV.d (.agg [D.int .i64 x.fst, D.int .i64 x.snd])] [] (AV.d (.bool (mayB x))) []) ∧ (((D.bool !mayB x) = D.bool true) ∧ ((D.bool true = D.bool true) ∧ ((D.bool true = D.bool true) ∧ ((FnOK Try.prog 68 [AV.d (.sl (List.map ivD s))] [] (AV.own 0 2) [Ob.row 2 (List.map ivD s)]) ∧ ((AV.d (.sl (List.map ivD s)) = AV.d (.sl (List.map ivD s))) ∧ (True))))))) (condP (noneB x) ((FnOK Try.prog 65 [AV.d (.agg [D.int .i64 x.fst, D.int .i64 x.snd])] [] (AV.d (.bool (mayB x))) []) ∧ (((D.bool !mayB x) = D.bool false) ∧ ((FnOK Try.prog 66 [AV.d (.agg [D.int .i64 x.fst, D.int .i64 x.snd])] [] (AV.d (.bool (noneB x))) []) ∧ ((D.bool (noneB x) = D.bool true) ∧ ((D.bool true = D.bool true) ∧ ((FnOK Try.prog 68 [AV.d (.sl (List.map ivD s))] [] (AV.own 0 2) [Ob.row 2 (List.map ivD s)]) ∧ ((AV.d (.sl (List.map ivD s)) = AV.d (.sl (List.map ivD s))) ∧ (True)))))))) ((FnOK Try.prog 65 [AV.d (.agg [D.int .i64 x.fst, D.int .i64 x.snd])] [] (AV.d (.bool (mayB x))) []) ∧ (((D.bool !mayB x) = D.bool false) ∧ ((FnOK Try.prog 66 [AV.d (.agg [D.int .i64 x.fst, D.int .i64 x.snd])] [] (AV.d (.bool (noneB x))) []) ∧ ((D.bool (noneB x) = D.bool false) ∧ ((FnOK Try.prog 67 [AV.d (.sl (List.map ivD s))] [] (AV.d (.int .i64 (iChk s))) []) ∧ ((D.bool (iChk s != (0 : Int)) = D.bool true) ∧ ((FnOK Try.prog 68 [AV.d (.sl (List.map ivD s))] [] (AV.own 0 2) [Ob.row 2 (List.map ivD s)]) ∧ ((AV.d (.sl (List.map ivD s)) = AV.d (.sl (List.map ivD s))) ∧ (True))))))))))) (h := {G := [(65, gAns (.d (.bool (mayB x)))), (66, gAns (.d (.bool (noneB x)))), (67, gAns (.d (.int .i64 (iChk s))))], H := [(1, [(11, .val (.bool true))]), (2, [(1, .call [] (.own 0 2) [.row 2 (s.map ivD)])])]}) (subs := []) (ws := []) (ρ := []) (by kernel_rfl) ?_
  unfold nop at h
  have k1 := may30 x
  have k2 := none31 x
  have k3 := chk19 s (by omega)
  have k4 := ivD_clone s (by omega)
  repeat' (with_reducible first | exact True.intro | apply And.intro | (first | apply zA | apply zB | apply zC | apply zD | apply zE | apply zF | apply zG) <;> intro)
  all_goals first | exact k1 | exact k2 | exact k3 | exact k4 | exact k5 | exact hL | rfl | exact dyes ‹_› | exact dno ‹_› | (refine congrArg D.bool ?_; assumption) | (refine congrArg D.bool ?_; simp_all; done) | (exfalso; simp_all; done) | skip

def rCut (s : List Iv) (x : Iv) : List Iv := if nop s x = true then s else pcs x s
theorem cut13 (s : List Iv) (hs : s.length < 400000) (x : Iv) : FnOK Try.prog 49 [.d (.sl (s.map ivD)), .d (ivD x)] [] (.d (.sl ((rCut s x).map ivD))) [] := by
  unfold rCut
  cases hn : nop s x
  · rw [if_neg (by simp)]
    obtain ⟨h1, h2, h3⟩ := nop_no hn
    have k1 := may30 x
    have k3 := chk19 s (by omega)
    rw [h1] at k1
    rw [h3] at k3
    have h2 := of_decide_eq_false h2
    exact cut13y s x (by omega) (by omega) k1 k3
  · rw [if_pos rfl]; exact cut13n s hs x trivial trivial hn
end Go.Proofs.Ytfllhedkgeljaaa.C06
