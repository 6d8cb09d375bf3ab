/-
laws 06: finding, counting.
-/
import Derived.Test.YtfllhedkgeljaaaC06S3
set_option linter.unusedSimpArgs false
set_option linter.unusedVariables false
namespace Go.Proofs.Ytfllhedkgeljaaa.C06
open Sx Go.RowKit

def inI (n : Int) (y : Iv) : Bool := decide (y.1 ≤ n ∧ n < y.2)
def ivZ : Ob := .box [.d (.int .i64 0), .d (.int .i64 0)]
def I41 (s : List Iv) (n : Int) (j : Nat) : St := ⟨[(1, .d (.int .i64 n)), (4, .ptr 0 0), (8, .d (.sl (s.map ivD))), (9, .d (.int .i64 s.length)), (10, .d (.int .i64 j))], [(0, ivZ)]⟩
def O41 (y : Iv) : St := ⟨[(4, .ptr 0 0), (5, .d (.bool true))], [(0, ivB y)]⟩
set_option maxRecDepth 100000 in
set_option maxHeartbeats 1000000 in
theorem r41a (s : List Iv) (hl : s.length < 1000000) (n : Int) (j : Nat) (y : Iv) (hn : s[j]? = some y) (h : ¬y.1 ≤ n) : Runs Try.prog 0 (loopN Try.prog 75 0) (St.as (I41 s n j) 27) (.normal) (St.as (I41 s n (j+1)) 27) := by
  refine round_wp (p := condP (decide ((↑j : Int) < (↑s.length : Int))) (((0 : Int) ≤ (↑j : Int)) ∧ (((List.map ivD s)[(↑j : Int).toNat]? = some (D.agg [D.int .i64 y.fst, D.int .i64 y.snd])) ∧ ((D.bool (decide (y.fst ≤ n)) = D.bool false) ∧ ((D.bool false = D.bool false) ∧ ((AV.d (.int .i64 n) = AV.d (.int .i64 n)) ∧ ((AV.ptr 0 0 = AV.ptr 0 0) ∧ ((AV.d (.sl (List.map ivD s)) = AV.d (.sl (List.map ivD s))) ∧ ((AV.d (.int .i64 (↑s.length : Int)) = AV.d (.int .i64 (↑s.length : Int))) ∧ ((AV.d (.int .i64 (IntKind.i64.wrap ((↑j : Int) + (1 : Int)))) = AV.d (.int .i64 (↑(j + 1) : Int))) ∧ ((Ob.box [AV.d (.int .i64 (0 : Int)), AV.d (.int .i64 (0 : Int))] = Ob.box [AV.d (.int .i64 (0 : Int)), AV.d (.int .i64 (0 : Int))]) ∧ (True))))))))))) (False)) (h := {els := [(8, .el (ivD y))], H := [(4, [(3, .val (.bool false))])]}) (subs := []) (ws := []) (ρ := []) (by kernel_rfl) ?_
  have hj := get_lt hn
  have hi := inc_i64 (j := j) (by omega)
  try simp only [hi]
  refine condP_t (by rw [decide_eq_true_eq]; omega) ?_
  repeat' (with_reducible first | exact True.intro | apply And.intro | (first | apply zA | apply zB | apply zC | apply zD | apply zE | apply zF | apply zG) <;> intro)
  all_goals first | exact el_map hn rfl | rfl | omega | exact dyes (by omega) | exact dno (by omega) | skip

set_option maxRecDepth 100000 in
set_option maxHeartbeats 1000000 in
theorem r41b (s : List Iv) (hl : s.length < 1000000) (n : Int) (j : Nat) (y : Iv) (hn : s[j]? = some y) (h : y.1 ≤ n) (h2 : ¬n < y.2) : Runs Try.prog 0 (loopN Try.prog 75 0) (St.as (I41 s n j) 27) (.normal) (St.as (I41 s n (j+1)) 27) := by
  refine round_wp (p := condP (decide ((↑j : Int) < (↑s.length : Int))) (((0 : Int) ≤ (↑j : Int)) ∧ (((List.map ivD s)[(↑j : Int).toNat]? = some (D.agg [D.int .i64 y.fst, D.int .i64 y.snd])) ∧ ((D.bool (decide (y.fst ≤ n)) = D.bool true) ∧ ((D.bool true = D.bool true) ∧ ((D.bool (decide (n < y.snd)) = D.bool false) ∧ ((AV.d (.int .i64 n) = AV.d (.int .i64 n)) ∧ ((AV.ptr 0 0 = AV.ptr 0 0) ∧ ((AV.d (.sl (List.map ivD s)) = AV.d (.sl (List.map ivD s))) ∧ ((AV.d (.int .i64 (↑s.length : Int)) = AV.d (.int .i64 (↑s.length : Int))) ∧ ((AV.d (.int .i64 (IntKind.i64.wrap ((↑j : Int) + (1 : Int)))) = AV.d (.int .i64 (↑(j + 1) : Int))) ∧ ((Ob.box [AV.d (.int .i64 (0 : Int)), AV.d (.int .i64 (0 : Int))] = Ob.box [AV.d (.int .i64 (0 : Int)), AV.d (.int .i64 (0 : Int))]) ∧ (True)))))))))))) (False)) (h := {els := [(8, .el (ivD y))], H := [(4, [(3, .val (.bool true)), (8, .val (.bool false))])]}) (subs := []) (ws := []) (ρ := []) (by kernel_rfl) ?_
  have hj := get_lt hn
  have hi := inc_i64 (j := j) (by omega)
  try simp only [hi]
  refine condP_t (by rw [decide_eq_true_eq]; omega) ?_
  repeat' (with_reducible first | exact True.intro | apply And.intro | (first | apply zA | apply zB | apply zC | apply zD | apply zE | apply zF | apply zG) <;> intro)
  all_goals first | exact el_map hn rfl | rfl | omega | exact dyes (by omega) | exact dno (by omega) | skip

set_option maxRecDepth 100000 in
set_option maxHeartbeats 1000000 in
theorem e41 (s : List Iv) (hl : s.length < 1000000) (n : Int) (j : Nat) (y : Iv) (hn : s[j]? = some y) (h : y.1 ≤ n) (h2 : n < y.2) : Runs Try.prog 0 (loopN Try.prog 75 0) (St.as (I41 s n j) 27) (.ret) (St.as (O41 y) 27) := by
  refine round_wp (p := condP (decide ((↑j : Int) < (↑s.length : Int))) (((0 : Int) ≤ (↑j : Int)) ∧ (((List.map ivD s)[(↑j : Int).toNat]? = some (D.agg [D.int .i64 y.fst, D.int .i64 y.snd])) ∧ ((D.bool (decide (y.fst ≤ n)) = D.bool true) ∧ ((D.bool true = D.bool true) ∧ ((D.bool (decide (n < y.snd)) = D.bool true) ∧ ((AV.ptr 0 0 = AV.ptr 0 0) ∧ ((AV.d (.bool true) = AV.d (.bool true)) ∧ ((Ob.box [AV.d (.int .i64 y.fst), AV.d (.int .i64 y.snd)] = Ob.box [AV.d (.int .i64 y.fst), AV.d (.int .i64 y.snd)]) ∧ (True))))))))) (False)) (h := {els := [(8, .el (ivD y))], H := [(4, [(3, .val (.bool true)), (8, .val (.bool true))])]}) (subs := []) (ws := []) (ρ := []) (by kernel_rfl) ?_
  have hj := get_lt hn
  have hi := inc_i64 (j := j) (by omega)
  try simp only [hi]
  refine condP_t (by rw [decide_eq_true_eq]; omega) ?_
  repeat' (with_reducible first | exact True.intro | apply And.intro | (first | apply zA | apply zB | apply zC | apply zD | apply zE | apply zF | apply zG) <;> intro)
  all_goals first | exact el_map hn rfl | rfl | omega | exact dyes (by omega) | exact dno (by omega) | skip

set_option maxRecDepth 100000 in
set_option maxHeartbeats 1000000 in
theorem q41 (s : List Iv) (n : Int) : Runs Try.prog 0 (loopN Try.prog 75 0) (St.as (I41 s n s.length) 27) (.exit 0) (St.as (I41 s n s.length) 27) := by
  refine round_wp (p := condP (decide ((↑s.length : Int) < (↑s.length : Int))) (False) ((AV.d (.int .i64 n) = AV.d (.int .i64 n)) ∧ ((AV.ptr 0 0 = AV.ptr 0 0) ∧ ((AV.d (.sl (List.map ivD s)) = AV.d (.sl (List.map ivD s))) ∧ ((AV.d (.int .i64 (↑s.length : Int)) = AV.d (.int .i64 (↑s.length : Int))) ∧ ((AV.d (.int .i64 (↑s.length : Int)) = AV.d (.int .i64 (↑s.length : Int))) ∧ ((Ob.box [AV.d (.int .i64 (0 : Int)), AV.d (.int .i64 (0 : Int))] = Ob.box [AV.d (.int .i64 (0 : Int)), AV.d (.int .i64 (0 : Int))]) ∧ (True)))))))) (h := {}) (subs := []) (ws := []) (ρ := []) (by kernel_rfl) ?_
  repeat' (with_reducible first | exact True.intro | apply And.intro | (first | apply zA | apply zB | apply zC | apply zD | apply zE | apply zF | apply zG) <;> intro)
  all_goals first | rfl | omega

set_option maxRecDepth 100000 in
set_option maxHeartbeats 1000000 in
theorem find41n (s : List Iv) (n : Int) (hL : Loops Try.prog 0 (loopN Try.prog 75 0) ((I41 s n 0).as 27) (.exit 0) ((I41 s n s.length).as 27)) : FnOK Try.prog 75 ([.d (.sl (s.map ivD)), .d (.int .i64 n)]) ([]) (.tup [.d (ivD (0, 0)), .d (.bool false)]) ([]) := by
  refine fnOK_wp (p := (AV.d (.int .i64 n) = AV.d (.int .i64 n)) ∧ ((AV.ptr 1032 0 = AV.ptr 1032 0) ∧ ((AV.d (.sl (List.map ivD s)) = AV.d (.sl (List.map ivD s))) ∧ ((AV.d (.int .i64 (↑(List.map ivD s).length : Int)) = AV.d (.int .i64 (↑s.length : Int))) ∧ ((AV.d (.int .i64 (0 : Int)) = AV.d (.int .i64 (0 : Int))) ∧ ((Ob.box [AV.d (.int .i64 (0 : Int)), AV.d (.int .i64 (0 : Int))] = Ob.box [AV.d (.int .i64 (0 : Int)), AV.d (.int .i64 (0 : Int))]) ∧ ((LoopsS Try.prog 0 (loopN Try.prog 75 0) (I41 s n 0) (Exit.exit 0) (I41 s n s.length) 27) ∧ ((AV.tup [AV.d (.agg [D.int .i64 (0 : Int), D.int .i64 (0 : Int)]), AV.d (.bool false)] = AV.tup [AV.d (.agg [D.int .i64 (0 : Int), D.int .i64 (0 : Int)]), AV.d (.bool false)]) ∧ (True))))))))) (h := {}) (subs := [⟨[], [], I41 s n 0, .exit 0, I41 s n s.length⟩]) (ws := []) (ρ := []) (by kernel_rfl) ?_
  simp only [List.length_map]
  repeat' (with_reducible first | exact True.intro | apply And.intro | (first | apply zA | apply zB | apply zC | apply zD | apply zE | apply zF | apply zG) <;> intro)
  all_goals first | exact hL | rfl | skip

set_option maxRecDepth 100000 in
set_option maxHeartbeats 1000000 in
theorem find41y (s : List Iv) (n : Int) (y : Iv) (hL : Loops Try.prog 0 (loopN Try.prog 75 0) ((I41 s n 0).as 27) .ret ((O41 y).as 27)) : FnOK Try.prog 75 ([.d (.sl (s.map ivD)), .d (.int .i64 n)]) ([]) (.tup [.d (ivD y), .d (.bool true)]) ([]) := by
  refine fnOK_wp (p := (AV.d (.int .i64 n) = AV.d (.int .i64 n)) ∧ ((AV.ptr 1032 0 = AV.ptr 1032 0) ∧ ((AV.d (.sl (List.map ivD s)) = AV.d (.sl (List.map ivD s))) ∧ ((AV.d (.int .i64 (↑(List.map ivD s).length : Int)) = AV.d (.int .i64 (↑s.length : Int))) ∧ ((AV.d (.int .i64 (0 : Int)) = AV.d (.int .i64 (0 : Int))) ∧ ((Ob.box [AV.d (.int .i64 (0 : Int)), AV.d (.int .i64 (0 : Int))] = Ob.box [AV.d (.int .i64 (0 : Int)), AV.d (.int .i64 (0 : Int))]) ∧ ((LoopsS Try.prog 0 (loopN Try.prog 75 0) (I41 s n 0) Exit.ret (O41 y) 27) ∧ ((AV.tup [AV.d (.agg [D.int .i64 y.fst, D.int .i64 y.snd]), AV.d (.bool true)] = AV.tup [AV.d (.agg [D.int .i64 y.fst, D.int .i64 y.snd]), AV.d (.bool true)]) ∧ (True))))))))) (h := {}) (subs := [⟨[], [], I41 s n 0, .ret, O41 y⟩]) (ws := []) (ρ := []) (by kernel_rfl) ?_
  simp only [List.length_map]
  repeat' (with_reducible first | exact True.intro | apply And.intro | (first | apply zA | apply zB | apply zC | apply zD | apply zE | apply zF | apply zG) <;> intro)
  all_goals first | exact hL | rfl | skip

/-- The one found, or nought; whether one was. -/
def fnd (s : List Iv) (n : Int) : Iv × Bool := match s.find? (inI n) with | some y => (y, true) | none => ((0, 0), false)
theorem find_first (p : Iv → Bool) : ∀ (s : List Iv) (m : Nat) (y : Iv), s[m]? = some y → p y = true → (∀ j z, j < m → s[j]? = some z → p z = false) → s.find? p = some y
  | [], m, y, h, _, _ => by simp at h
  | z :: s, 0, y, h, hp, _ => by simp at h; subst h; rw [List.find?_cons_of_pos hp]
  | z :: s, m + 1, y, h, hp, hf => by
    have hz := hf 0 z (by omega) rfl
    rw [List.find?_cons_of_neg (by rw [hz]; simp)]
    exact find_first p s m y (by simpa using h) hp fun j w hj hw => hf (j + 1) w (by omega) (by simpa using hw)
theorem find41 (s : List Iv) (hl : s.length < 1000000) (n : Int) : FnOK Try.prog 75 [.d (.sl (s.map ivD)), .d (.int .i64 n)] [] (.tup [.d (ivD (fnd s n).1), .d (.bool (fnd s n).2)]) [] := by
  have step : ∀ (j : Nat) (y : Iv), s[j]? = some y → inI n y = false → Runs Try.prog 0 (loopN Try.prog 75 0) ((I41 s n j).as 27) .normal ((I41 s n (j + 1)).as 27) := fun j y hn hx => by
    have hx := of_decide_eq_false hx
    by_cases h : y.1 ≤ n
    · exact r41b s hl n j y hn h (by omega)
    · exact r41a s hl n j y hn h
  unfold fnd
  rcases all_or (fun y => inI n y = false) s with h | ⟨m, y, h1, h2, h3⟩
  · have e : s.find? (inI n) = none := by rw [List.find?_eq_none]; intro y hy; rw [h y hy]; simp
    rw [e]
    exact find41n s n (loops_n (I := fun j => (I41 s n j).as 27) (by simp) s.length 0 (by omega) (fun j _ hj => step j _ (get_of hj) (h _ (List.getElem_mem hj))) (q41 s n))
  · have hm := get_lt h1
    have h2 : inI n y = true := by cases g : inI n y; exact absurd g h2; rfl
    rw [find_first (inI n) s m y h1 h2 h3]
    have h4 := of_decide_eq_true h2
    exact find41y s n y (loops_n (I := fun j => (I41 s n j).as 27) (by simp) m 0 (by omega) (fun j _ hj => step j (s[j]'(by omega)) (get_of _) (h3 j _ hj (get_of _))) (e41 s hl n m y h1 h4.1 h4.2))
set_option maxRecDepth 100000 in
set_option maxHeartbeats 1000000 in
theorem first28y (s : List Iv) (n m : Int) (hm : max n 0 = m) (y : Iv) (k2 : True) (k1 : FnOK Try.prog 75 [.d (.sl (s.map ivD)), .d (.int .i64 m)] [] (.tup [.d (ivD y), .d (.bool true)]) []) : FnOK Try.prog 48 ([.d (.sl (s.map ivD)), .d (.int .i64 n)]) ([]) (.d (.int .i64 y.2)) ([]) := by
  refine fnOK_wp (p := (D.int .i64 (max n (0 : Int)) = D.int .i64 m) ∧ ((FnOK Try.prog 75 [AV.d (.sl (List.map ivD s)), AV.d (.int .i64 m)] [] (AV.tup [AV.d (.agg [D.int .i64 y.fst, D.int .i64 y.snd]), AV.d (.bool true)]) []) ∧ ((AV.d (.int .i64 y.snd) = AV.d (.int .i64 y.snd)) ∧ (True)))) (h := {H := [(1, [(1, .val (.int .i64 m))])], G := [(75, gAns (.tup [.d (ivD y), .d (.bool true)]))]}) (subs := []) (ws := []) (ρ := []) (by kernel_rfl) ?_
  repeat' (with_reducible first | exact True.intro | apply And.intro | (first | apply zA | apply zB | apply zC | apply zD | apply zE | apply zF | apply zG) <;> intro)
  all_goals first | exact k1 | rfl | exact congrArg (D.int .i64) hm | skip

set_option maxRecDepth 100000 in
set_option maxHeartbeats 1000000 in
theorem first28n (s : List Iv) (n m : Int) (hm : max n 0 = m) (y : Iv) (k2 : True) (k1 : FnOK Try.prog 75 [.d (.sl (s.map ivD)), .d (.int .i64 m)] [] (.tup [.d (ivD y), .d (.bool false)]) []) : FnOK Try.prog 48 ([.d (.sl (s.map ivD)), .d (.int .i64 n)]) ([]) (.d (.int .i64 m)) ([]) := by
  refine fnOK_wp (p := (D.int .i64 (max n (0 : Int)) = D.int .i64 m) ∧ ((FnOK Try.prog 75 [AV.d (.sl (List.map ivD s)), AV.d (.int .i64 m)] [] (AV.tup [AV.d (.agg [D.int .i64 y.fst, D.int .i64 y.snd]), AV.d (.bool false)]) []) ∧ ((AV.d (.int .i64 m) = AV.d (.int .i64 m)) ∧ (True)))) (h := {H := [(1, [(1, .val (.int .i64 m))])], G := [(75, gAns (.tup [.d (ivD y), .d (.bool false)]))]}) (subs := []) (ws := []) (ρ := []) (by kernel_rfl) ?_
  repeat' (with_reducible first | exact True.intro | apply And.intro | (first | apply zA | apply zB | apply zC | apply zD | apply zE | apply zF | apply zG) <;> intro)
  all_goals first | exact k1 | rfl | exact congrArg (D.int .i64) hm | skip

set_option maxRecDepth 100000 in
set_option maxHeartbeats 1000000 in
theorem same23 (a b : List Iv) (q : Bool) (k1 : FnOK Try.prog 82 [.d (.sl (a.map ivD)), .d (.sl (b.map ivD))] [] (.d (.bool q)) []) : FnOK Try.prog 64 ([.d (.sl (a.map ivD)), .d (.sl (b.map ivD))]) ([]) (.d (.bool q)) ([]) := by
  refine fnOK_wp (p := (FnOK Try.prog 82 [AV.d (.sl (List.map ivD a)), AV.d (.sl (List.map ivD b))] [] (AV.d (.bool q)) []) ∧ ((AV.d (.bool q) = AV.d (.bool q)) ∧ (True))) (h := {H := [(1, [(2, .call [] (.d (.bool q)) [])])]}) (subs := []) (ws := []) (ρ := []) (by kernel_rfl) ?_
  exact ⟨k1, rfl, trivial⟩

def rHas (s : List Iv) (n : Int) : Bool := (fnd s n).2
def rHolds (s : List Iv) (x : Iv) : Bool := noneB x || ((fnd s x.1).2 && decide ((fnd s x.1).1.2 ≥ x.2))
def rFirst (s : List Iv) (n : Int) : Int := if (fnd s (max n 0)).2 = true then (fnd s (max n 0)).1.2 else max n 0
theorem rHas_eq (s : List Iv) (n : Int) : rHas s n = has s n := by
  unfold rHas fnd
  cases h : s.find? (inI n) with
  | none =>
    rw [List.find?_eq_none] at h
    symm
    show s.any (inI n) = false
    rw [List.any_eq_false]
    exact h
  | some y =>
    symm
    show s.any (inI n) = true
    exact List.any_eq_true.2 ⟨y, List.mem_of_find?_eq_some h, List.find?_some h⟩
theorem first28 (s : List Iv) (hl : s.length < 1000000) (n : Int) : FnOK Try.prog 48 [.d (.sl (s.map ivD)), .d (.int .i64 n)] [] (.d (.int .i64 (rFirst s n))) [] := by
  have k := find41 s hl (max n 0)
  unfold rFirst
  cases hq : (fnd s (max n 0)).2
  · rw [hq] at k
    rw [if_neg (by simp)]
    exact first28n s n _ rfl _ trivial k
  · rw [hq] at k
    rw [if_pos rfl]
    exact first28y s n _ rfl _ trivial k
/-! ### Count -/
def cnt : List Iv → Int
  | [] => 0
  | x :: l => (x.2 - x.1) + cnt l
theorem cnt_append (l m : List Iv) : cnt (l ++ m) = cnt l + cnt m := by
  induction l with
  | nil => simp [cnt]
  | cons x l ih => rw [List.cons_append, cnt, cnt, ih]; omega
theorem cnt_bd : ∀ {l : List Iv} {e M : Int}, Srt e l → (∀ x ∈ l, x.2 ≤ M) → e ≤ M → 0 ≤ cnt l ∧ cnt l ≤ M - e
  | [], e, M, _, _, he => by unfold cnt; omega
  | x :: l, e, M, h, hM, he => by
    have h1 := h.1
    have h2 := hM x (by simp)
    have := cnt_bd h.2 (fun y hy => hM y (List.mem_cons_of_mem _ hy)) h2
    unfold cnt
    omega
theorem srt_take : ∀ {l : List Iv} {e : Int} (j : Nat), Srt e l → Srt e (l.take j)
  | _, _, 0, _ => trivial
  | [], e, j + 1, h => by simpa using h
  | x :: l, e, j + 1, h => ⟨h.1, srt_take j h.2⟩
def I21 (s : List Iv) (n : Int) (j : Nat) : St := ⟨[(3, .d (.int .i64 n)), (9, .d (.sl (s.map ivD))), (10, .d (.int .i64 s.length)), (11, .d (.int .i64 j))], []⟩
set_option maxRecDepth 100000 in
set_option maxHeartbeats 1000000 in
theorem r21 (s : List Iv) (hl : s.length < 1000000) (n : Int) (j : Nat) (y : Iv) (hn : s[j]? = some y) (h1 : IntKind.i64.wrap (y.2 - y.1) = y.2 - y.1) (h2 : IntKind.i64.wrap (n + (y.2 - y.1)) = n + (y.2 - y.1)) : Runs Try.prog 0 (loopN Try.prog 46 0) (St.as (I21 s n j) 24) (.normal) (St.as (I21 s (n + (y.2 - y.1)) (j+1)) 24) := by
  refine round_wp (p := condP (decide ((↑j : Int) < (↑s.length : Int))) (((0 : Int) ≤ (↑j : Int)) ∧ (((List.map ivD s)[(↑j : Int).toNat]? = some (D.agg [D.int .i64 y.fst, D.int .i64 y.snd])) ∧ ((AV.d (.int .i64 (IntKind.i64.wrap (n + IntKind.i64.wrap (y.snd - y.fst)))) = AV.d (.int .i64 (n + (y.snd - y.fst)))) ∧ ((AV.d (.sl (List.map ivD s)) = AV.d (.sl (List.map ivD s))) ∧ ((AV.d (.int .i64 (↑s.length : Int)) = AV.d (.int .i64 (↑s.length : Int))) ∧ ((AV.d (.int .i64 (IntKind.i64.wrap ((↑j : Int) + (1 : Int)))) = AV.d (.int .i64 (↑(j + 1) : Int))) ∧ (True))))))) (False)) (h := {els := [(9, .el (ivD y))]}) (subs := []) (ws := []) (ρ := []) (by kernel_rfl) ?_
  have hj := get_lt hn
  have hi := inc_i64 (j := j) (by omega)
  simp only [hi, h1, h2]
  refine condP_t (by rw [decide_eq_true_eq]; omega) ?_
  repeat' (with_reducible first | exact True.intro | apply And.intro | (first | apply zA | apply zB | apply zC | apply zD | apply zE | apply zF | apply zG) <;> intro)
  all_goals first | exact el_map hn rfl | rfl | omega | skip

set_option maxRecDepth 100000 in
set_option maxHeartbeats 1000000 in
theorem q21 (s : List Iv) (n : Int) : Runs Try.prog 0 (loopN Try.prog 46 0) (St.as (I21 s n s.length) 24) (.exit 0) (St.as (I21 s n s.length) 24) := by
  refine round_wp (p := condP (decide ((↑s.length : Int) < (↑s.length : Int))) (False) ((AV.d (.int .i64 n) = AV.d (.int .i64 n)) ∧ ((AV.d (.sl (List.map ivD s)) = AV.d (.sl (List.map ivD s))) ∧ ((AV.d (.int .i64 (↑s.length : Int)) = AV.d (.int .i64 (↑s.length : Int))) ∧ ((AV.d (.int .i64 (↑s.length : Int)) = AV.d (.int .i64 (↑s.length : Int))) ∧ (True)))))) (h := {}) (subs := []) (ws := []) (ρ := []) (by kernel_rfl) ?_
  repeat' (with_reducible first | exact True.intro | apply And.intro | (first | apply zA | apply zB | apply zC | apply zD | apply zE | apply zF | apply zG) <;> intro)
  all_goals first | rfl | omega

set_option maxRecDepth 100000 in
set_option maxHeartbeats 1000000 in
theorem cnt21n (s : List Iv) (e : Int) (he : e ≠ 0) (k1 : FnOK Try.prog 67 [.d (.sl (s.map ivD))] [] (.d (.int .i64 e)) []) : FnOK Try.prog 46 ([.d (.sl (s.map ivD))]) ([]) (.d (.int .i64 0)) ([]) := by
  refine fnOK_wp (p := (FnOK Try.prog 67 [AV.d (.sl (List.map ivD s))] [] (AV.d (.int .i64 e)) []) ∧ ((D.bool (e != (0 : Int)) = D.bool true) ∧ ((AV.d (.int .i64 (0 : Int)) = AV.d (.int .i64 (0 : Int))) ∧ (True)))) (h := {H := [(1, [(2, .val (.bool true))])], G := [(67, gAns (.d (.int .i64 e)))]}) (subs := []) (ws := []) (ρ := []) (by kernel_rfl) ?_
  repeat' (with_reducible first | exact True.intro | apply And.intro | (first | apply zA | apply zB | apply zC | apply zD | apply zE | apply zF | apply zG) <;> intro)
  all_goals first | exact k1 | rfl | (refine congrArg D.bool ?_; simpa using he) | skip

set_option maxRecDepth 100000 in
set_option maxHeartbeats 1000000 in
theorem cnt21y (s : List Iv) (n : Int) (k1 : FnOK Try.prog 67 [.d (.sl (s.map ivD))] [] (.d (.int .i64 0)) []) (hL : Loops Try.prog 0 (loopN Try.prog 46 0) ((I21 s 0 0).as 24) (.exit 0) ((I21 s n s.length).as 24)) : FnOK Try.prog 46 ([.d (.sl (s.map ivD))]) ([]) (.d (.int .i64 n)) ([]) := by
  refine fnOK_wp (p := (FnOK Try.prog 67 [AV.d (.sl (List.map ivD s))] [] (AV.d (.int .i64 (0 : Int))) []) ∧ ((AV.d (.int .i64 (0 : Int)) = AV.d (.int .i64 (0 : Int))) ∧ ((AV.d (.sl (List.map ivD s)) = AV.d (.sl (List.map ivD s))) ∧ ((AV.d (.int .i64 (↑(List.map ivD s).length : Int)) = AV.d (.int .i64 (↑s.length : Int))) ∧ ((AV.d (.int .i64 (0 : Int)) = AV.d (.int .i64 (0 : Int))) ∧ ((LoopsS Try.prog 0 (loopN Try.prog 46 0) (I21 s (0 : Int) 0) (Exit.exit 0) (I21 s n s.length) 24) ∧ ((AV.d (.int .i64 n) = AV.d (.int .i64 n)) ∧ (True)))))))) (h := {G := [(67, gAns (.d (.int .i64 0)))]}) (subs := [⟨[], [], I21 s 0 0, .exit 0, I21 s n s.length⟩]) (ws := []) (ρ := []) (by kernel_rfl) ?_
  simp only [List.length_map]
  repeat' (with_reducible first | exact True.intro | apply And.intro | (first | apply zA | apply zB | apply zC | apply zD | apply zE | apply zF | apply zG) <;> intro)
  all_goals first | exact k1 | exact hL | rfl | skip

def rCount (s : List Iv) : Int := if iChk s = 0 then cnt s else 0
theorem count21 (s : List Iv) (hl : s.length < 1000000) : FnOK Try.prog 46 [.d (.sl (s.map ivD))] [] (.d (.int .i64 (rCount s))) [] := by
  have k1 := chk19 s hl
  unfold rCount
  by_cases h : iChk s = 0
  · rw [if_pos h]
    rw [h] at k1
    have ok := iChk_iff.1 h
    have hb : ∀ j, 0 ≤ cnt (s.take j) ∧ cnt (s.take j) ≤ 4611686018427387903 - (-1) := fun j => cnt_bd (srt_take j ok.srt) (fun x hx => ok.up x (List.mem_of_mem_take hx)) (by omega)
    have hL := loops_n (P := Try.prog) (k := 0) (c := loopN Try.prog 46 0) (e := .exit 0) (I := fun j => (I21 s (cnt (s.take j)) j).as 24) (by simp) s.length 0 (by omega) (fun j _ hj => by
      have hn := get_of hj
      have hm := srt_mem ok.srt _ (get_mem hn)
      have hu := ok.up _ (get_mem hn)
      have b1 := hb j
      have b2 := hb (j + 1)
      have e : cnt (s.take (j + 1)) = cnt (s.take j) + (s[j].2 - s[j].1) := by rw [take_snoc hn, cnt_append]; simp [cnt]
      show Runs _ _ _ _ _ ((I21 s (cnt (s.take (j + 1))) (j + 1)).as _)
      rw [e]
      rw [e] at b2
      exact r21 s hl _ j _ hn (by rw [IntKind.wrap_i64]; omega) (by rw [IntKind.wrap_i64]; omega)) (by simp only [List.take_length]; exact q21 s (cnt s))
    exact cnt21y s _ k1 hL
  · rw [if_neg h]; exact cnt21n s _ h k1
end Go.Proofs.Ytfllhedkgeljaaa.C06
