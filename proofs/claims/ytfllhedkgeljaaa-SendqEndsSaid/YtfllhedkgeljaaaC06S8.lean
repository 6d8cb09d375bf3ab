/-
laws 06: the document's: ends, one, whether a set may be, whether a number is there, put.
-/
import Derived.Test.YtfllhedkgeljaaaC06S7
set_option linter.unusedSimpArgs false
set_option linter.unusedVariables false
namespace Go.Proofs.Ytfllhedkgeljaaa.C06
open Sx Go.RowKit

/-- A loop that ends at the first that is so. -/
theorem loops_any {α : Type} {k : Nat} {c : Code} {I : Nat → AS} {R E : AS} {e : Exit} {s : List α} (p : α → Bool) (he : e ≠ .normal) (hr : ∀ j x, s[j]? = some x → p x = false → Runs Try.prog k c (I j) .normal (I (j+1))) (hx : ∀ j x, s[j]? = some x → p x = true → Runs Try.prog k c (I j) .ret R) (hq : Runs Try.prog k c (I s.length) e E) : ∀ (m : List α) (j : Nat), j ≤ s.length → s.drop j = m →
    (m.any p = false → Loops Try.prog k c (I j) e E) ∧ (m.any p = true → Loops Try.prog k c (I j) .ret R)
  | [], j, hj, hd => by
    have : s.length ≤ j := List.drop_eq_nil_iff.1 hd
    have hj : j = s.length := by omega
    subst hj
    exact ⟨fun _ => .out hq he, fun h => by cases h⟩
  | x :: r, j, hj, hd => by
    have hn : s[j]? = some x := by
      have : (s.drop j)[0]? = some x := by rw [hd]; rfl
      rw [List.getElem?_drop] at this; exact this
    have hd2 : s.drop (j + 1) = r := by rw [← List.drop_drop, hd]; rfl
    obtain ⟨i1, i2⟩ := loops_any p he hr hx hq r (j + 1) (by have := get_lt hn; omega) hd2
    rw [List.any_cons]
    cases h : p x
    · rw [Bool.false_or]
      exact ⟨fun g => .next (hr j x hn h) (i1 g), fun g => .next (hr j x hn h) (i2 g)⟩
    · rw [Bool.true_or]
      exact ⟨fun g => (by cases g), fun _ => .out (hx j x hn h) (by simp)⟩
set_option maxRecDepth 100000 in
set_option maxHeartbeats 1000000 in
theorem in43 (n : Int) : FnOK Try.prog 87 ([.d (.int .i64 n)]) ([]) (.d (.bool (endB n))) ([]) := by
  refine fnOK_wp (p := condP (decide (n ≥ (0 : Int))) ((D.bool (decide (n ≥ (0 : Int))) = D.bool true) ∧ ((AV.d (.bool (decide (n ≤ (4611686018427387903 : Int)))) = AV.d (.bool (endB n))) ∧ (True))) ((D.bool (decide (n ≥ (0 : Int))) = D.bool false) ∧ ((AV.d (.bool false) = AV.d (.bool (endB n))) ∧ (True)))) (h := {}) (subs := []) (ws := []) (ρ := []) (by kernel_rfl) ?_
  unfold endB
  repeat' (with_reducible first | exact True.intro | apply And.intro | (first | apply zA | apply zB | apply zC | apply zD | apply zE | apply zF | apply zG) <;> intro)
  all_goals first | rfl | exact dyes ‹_› | exact dno ‹_› | (refine congrArg (fun z => AV.d (.bool z)) ?_; rw [decide_eq_true (p := n ≥ 0) (by assumption), Bool.true_and]; done) | (refine congrArg (fun z => AV.d (.bool z)) ?_; rw [decide_eq_false (p := n ≥ 0) (by assumption)]; rfl) | skip

set_option maxRecDepth 100000 in
set_option maxHeartbeats 1000000 in
theorem may34 (x : Iv) : FnOK Try.prog 77 ([.d (ivD x)]) ([]) (.d (.bool (mayB x))) ([]) := by
  refine fnOK_wp (p := condP (endB x.fst) ((FnOK Try.prog 87 [AV.d (.int .i64 x.fst)] [] (AV.d (.bool (endB x.fst))) []) ∧ ((D.bool (endB x.fst) = D.bool true) ∧ ((FnOK Try.prog 87 [AV.d (.int .i64 x.snd)] [] (AV.d (.bool (endB x.snd))) []) ∧ ((AV.d (.bool (endB x.snd)) = AV.d (.bool (mayB x))) ∧ (True))))) ((FnOK Try.prog 87 [AV.d (.int .i64 x.fst)] [] (AV.d (.bool (endB x.fst))) []) ∧ ((D.bool (endB x.fst) = D.bool false) ∧ ((AV.d (.bool false) = AV.d (.bool (mayB x))) ∧ (True))))) (h := {G := [(87, gEnd)]}) (subs := []) (ws := []) (ρ := []) (by kernel_rfl) ?_
  have k1 := in43 x.1
  have k2 := in43 x.2
  unfold mayB
  repeat' (with_reducible first | exact True.intro | apply And.intro | (first | apply zA | apply zB | apply zC | apply zD | apply zE | apply zF | apply zG) <;> intro)
  all_goals first | exact k1 | exact k2 | rfl | (refine congrArg (fun z => AV.d (.bool z)) ?_; simp_all; done) | (refine congrArg D.bool ?_; simp_all; done) | skip

def rOne (x : Iv) : List Iv := if x.2 ≤ x.1 then [] else [x]
set_option maxRecDepth 100000 in
set_option maxHeartbeats 1000000 in
theorem one36a (x : Iv) (h : x.2 ≤ x.1) : FnOK Try.prog 79 ([.d (ivD x)]) ([]) (.d (.sl [])) ([]) := by
  refine fnOK_wp (p := (D.bool (decide (x.snd ≤ x.fst)) = D.bool true) ∧ ((AV.d (.sl []) = AV.d (.sl [])) ∧ (True))) (h := {H := [(1, [(4, .val (.bool true))])]}) (subs := []) (ws := []) (ρ := []) (by kernel_rfl) ?_
  repeat' (with_reducible first | exact True.intro | apply And.intro | (first | apply zA | apply zB | apply zC | apply zD | apply zE | apply zF | apply zG) <;> intro)
  all_goals first | rfl | exact dyes h | skip

set_option maxRecDepth 100000 in
set_option maxHeartbeats 1000000 in
theorem one36b (x : Iv) (h : ¬x.2 ≤ x.1) : FnOK Try.prog 79 ([.d (ivD x)]) ([]) (.d (.sl [ivD x])) ([]) := by
  refine fnOK_wp (p := (D.bool (decide (x.snd ≤ x.fst)) = D.bool false) ∧ ((AV.d (.sl [D.agg [D.int .i64 x.fst, D.int .i64 x.snd]]) = AV.d (.sl [D.agg [D.int .i64 x.fst, D.int .i64 x.snd]])) ∧ (True))) (h := {H := [(1, [(4, .val (.bool false))])]}) (subs := []) (ws := []) (ρ := []) (by kernel_rfl) ?_
  repeat' (with_reducible first | exact True.intro | apply And.intro | (first | apply zA | apply zB | apply zC | apply zD | apply zE | apply zF | apply zG) <;> intro)
  all_goals first | rfl | exact dno h | (simp [chunk, ivD, D.cells]; done) | skip

theorem one36 (x : Iv) : FnOK Try.prog 79 [.d (ivD x)] [] (.d (.sl ((rOne x).map ivD))) [] := by
  unfold rOne
  by_cases h : x.2 ≤ x.1
  · rw [if_pos h]; exact one36a x h
  · rw [if_neg h]; exact one36b x h
/-! ### Check -/
def A20 (s : List Iv) (j : Nat) : St := ⟨[(0, .d (.sl (s.map ivD))), (3, .d (.int .i64 j))], []⟩
def B20 (s : List Iv) (j : Nat) : St := ⟨[(0, .d (.sl (s.map ivD))), (4, .d (.int .i64 j))], []⟩
def C20 (s : List Iv) (j : Nat) : St := ⟨[(0, .d (.sl (s.map ivD))), (5, .d (.int .i64 j))], []⟩
set_option maxRecDepth 100000 in
set_option maxHeartbeats 1000000 in
theorem ra20 (s : List Iv) (hl : s.length < 1000000) (j : Nat) (y : Iv) (hy : s[j]? = some y) (h : mayB y = true) : Runs Try.prog 0 (loopN Try.prog 59 0) (St.as (A20 s j) 53) (.normal) (St.as (A20 s (j+1)) 53) := by
  refine round_wp (p := condP (decide ((↑j : Int) < (↑(List.map ivD s).length : Int))) (((0 : Int) ≤ (↑j : Int)) ∧ (((List.map ivD s)[(↑j : Int).toNat]? = some (D.agg [D.int .i64 y.fst, D.int .i64 y.snd])) ∧ ((FnOK Try.prog 77 [AV.d (.agg [D.int .i64 y.fst, D.int .i64 y.snd])] [] (AV.d (.bool true)) []) ∧ ((AV.d (.sl (List.map ivD s)) = AV.d (.sl (List.map ivD s))) ∧ ((AV.d (.int .i64 (IntKind.i64.wrap ((↑j : Int) + (1 : Int)))) = AV.d (.int .i64 (↑(j + 1) : Int))) ∧ (True)))))) (False)) (h := {els := [(12, .el (ivD y))], G := [(77, gAns (.d (.bool true)))]}) (subs := []) (ws := []) (ρ := []) (by kernel_rfl) ?_
  have hj := get_lt hy
  have hi := inc_i64 (j := j) (by omega)
  have k1 := may34 y
  try simp only [hi]
  try simp only [List.length_map]
  refine condP_t (by rw [decide_eq_true_eq]; omega) ?_
  repeat' (with_reducible first | exact True.intro | apply And.intro | (first | apply zA | apply zB | apply zC | apply zD | apply zE | apply zF | apply zG) <;> intro)
  all_goals first | exact h ▸ k1 | exact el_map hy rfl | rfl | omega | exact dyes (by omega) | exact dno (by omega) | (exfalso; omega) | skip

set_option maxRecDepth 100000 in
set_option maxHeartbeats 1000000 in
theorem ea20 (s : List Iv) (hl : s.length < 1000000) (j : Nat) (y : Iv) (hy : s[j]? = some y) (h : mayB y = false) : Runs Try.prog 0 (loopN Try.prog 59 0) (St.as (A20 s j) 53) (.ret) (St.as (O19 8) 53) := by
  refine round_wp (p := condP (decide ((↑j : Int) < (↑(List.map ivD s).length : Int))) (((0 : Int) ≤ (↑j : Int)) ∧ (((List.map ivD s)[(↑j : Int).toNat]? = some (D.agg [D.int .i64 y.fst, D.int .i64 y.snd])) ∧ ((FnOK Try.prog 77 [AV.d (.agg [D.int .i64 y.fst, D.int .i64 y.snd])] [] (AV.d (.bool false)) []) ∧ ((AV.d (.int .i64 (8 : Int)) = AV.d (.int .i64 (8 : Int))) ∧ (True))))) (False)) (h := {els := [(12, .el (ivD y))], G := [(77, gAns (.d (.bool false)))]}) (subs := []) (ws := []) (ρ := []) (by kernel_rfl) ?_
  have hj := get_lt hy
  have hi := inc_i64 (j := j) (by omega)
  have k1 := may34 y
  try simp only [hi]
  try simp only [List.length_map]
  refine condP_t (by rw [decide_eq_true_eq]; omega) ?_
  repeat' (with_reducible first | exact True.intro | apply And.intro | (first | apply zA | apply zB | apply zC | apply zD | apply zE | apply zF | apply zG) <;> intro)
  all_goals first | exact h ▸ k1 | exact el_map hy rfl | rfl | omega | exact dyes (by omega) | exact dno (by omega) | (exfalso; omega) | skip

set_option maxRecDepth 100000 in
set_option maxHeartbeats 1000000 in
theorem qa20 (s : List Iv) : Runs Try.prog 0 (loopN Try.prog 59 0) (St.as (A20 s s.length) 53) (.exit 0) (St.as (A20 s s.length) 53) := by
  refine round_wp (p := condP (decide ((↑s.length : Int) < (↑(List.map ivD s).length : Int))) (False) ((AV.d (.sl (List.map ivD s)) = AV.d (.sl (List.map ivD s))) ∧ ((AV.d (.int .i64 (↑s.length : Int)) = AV.d (.int .i64 (↑s.length : Int))) ∧ (True)))) (h := {}) (subs := []) (ws := []) (ρ := []) (by kernel_rfl) ?_
  repeat' (with_reducible first | exact True.intro | apply And.intro | (first | apply zA | apply zB | apply zC | apply zD | apply zE | apply zF | apply zG) <;> intro)
  all_goals (try simp only [List.length_map, AV.d.injEq, D.int.injEq, D.bool.injEq, D.str.injEq, D.sl.injEq, true_and, and_true, decide_eq_true_eq, decide_eq_false_iff_not, decide_eq_decide])
  all_goals (try simp only [List.length_map] at *)
  all_goals first | rfl | omega

set_option maxRecDepth 100000 in
set_option maxHeartbeats 1000000 in
theorem rb20 (s : List Iv) (hl : s.length < 1000000) (j : Nat) (y : Iv) (hy : s[j]? = some y) (h : ¬y.2 ≤ y.1) : Runs Try.prog 0 (loopN Try.prog 59 1) (St.as (B20 s j) 53) (.normal) (St.as (B20 s (j+1)) 53) := by
  refine round_wp (p := condP (decide ((↑j : Int) < (↑(List.map ivD s).length : Int))) (((0 : Int) ≤ (↑j : Int)) ∧ (((List.map ivD s)[(↑j : Int).toNat]? = some (D.agg [D.int .i64 y.fst, D.int .i64 y.snd])) ∧ (((0 : Int) ≤ (↑j : Int)) ∧ (((List.map ivD s)[(↑j : Int).toNat]? = some (D.agg [D.int .i64 y.fst, D.int .i64 y.snd])) ∧ ((D.bool (decide (y.snd ≤ y.fst)) = D.bool false) ∧ ((AV.d (.sl (List.map ivD s)) = AV.d (.sl (List.map ivD s))) ∧ ((AV.d (.int .i64 (IntKind.i64.wrap ((↑j : Int) + (1 : Int)))) = AV.d (.int .i64 (↑(j + 1) : Int))) ∧ (True)))))))) (False)) (h := {els := [(24, .el (ivD y)), (29, .el (ivD y))], H := [(9, [(10, .val (.bool false))])]}) (subs := []) (ws := []) (ρ := []) (by kernel_rfl) ?_
  have hj := get_lt hy
  have hi := inc_i64 (j := j) (by omega)
  have k1 := may34 y
  try simp only [hi]
  try simp only [List.length_map]
  refine condP_t (by rw [decide_eq_true_eq]; omega) ?_
  repeat' (with_reducible first | exact True.intro | apply And.intro | (first | apply zA | apply zB | apply zC | apply zD | apply zE | apply zF | apply zG) <;> intro)
  all_goals first | exact h ▸ k1 | exact el_map hy rfl | rfl | omega | exact dyes (by omega) | exact dno (by omega) | (exfalso; omega) | skip

set_option maxRecDepth 100000 in
set_option maxHeartbeats 1000000 in
theorem eb20 (s : List Iv) (hl : s.length < 1000000) (j : Nat) (y : Iv) (hy : s[j]? = some y) (h : y.2 ≤ y.1) : Runs Try.prog 0 (loopN Try.prog 59 1) (St.as (B20 s j) 53) (.ret) (St.as (O19 4) 53) := by
  refine round_wp (p := condP (decide ((↑j : Int) < (↑(List.map ivD s).length : Int))) (((0 : Int) ≤ (↑j : Int)) ∧ (((List.map ivD s)[(↑j : Int).toNat]? = some (D.agg [D.int .i64 y.fst, D.int .i64 y.snd])) ∧ (((0 : Int) ≤ (↑j : Int)) ∧ (((List.map ivD s)[(↑j : Int).toNat]? = some (D.agg [D.int .i64 y.fst, D.int .i64 y.snd])) ∧ ((D.bool (decide (y.snd ≤ y.fst)) = D.bool true) ∧ ((AV.d (.int .i64 (4 : Int)) = AV.d (.int .i64 (4 : Int))) ∧ (True))))))) (False)) (h := {els := [(24, .el (ivD y)), (29, .el (ivD y))], H := [(9, [(10, .val (.bool true))])]}) (subs := []) (ws := []) (ρ := []) (by kernel_rfl) ?_
  have hj := get_lt hy
  have hi := inc_i64 (j := j) (by omega)
  have k1 := may34 y
  try simp only [hi]
  try simp only [List.length_map]
  refine condP_t (by rw [decide_eq_true_eq]; omega) ?_
  repeat' (with_reducible first | exact True.intro | apply And.intro | (first | apply zA | apply zB | apply zC | apply zD | apply zE | apply zF | apply zG) <;> intro)
  all_goals first | exact h ▸ k1 | exact el_map hy rfl | rfl | omega | exact dyes (by omega) | exact dno (by omega) | (exfalso; omega) | skip

set_option maxRecDepth 100000 in
set_option maxHeartbeats 1000000 in
theorem qb20 (s : List Iv) : Runs Try.prog 0 (loopN Try.prog 59 1) (St.as (B20 s s.length) 53) (.exit 2) (St.as (B20 s s.length) 53) := by
  refine round_wp (p := condP (decide ((↑s.length : Int) < (↑(List.map ivD s).length : Int))) (False) ((AV.d (.sl (List.map ivD s)) = AV.d (.sl (List.map ivD s))) ∧ ((AV.d (.int .i64 (↑s.length : Int)) = AV.d (.int .i64 (↑s.length : Int))) ∧ (True)))) (h := {}) (subs := []) (ws := []) (ρ := []) (by kernel_rfl) ?_
  repeat' (with_reducible first | exact True.intro | apply And.intro | (first | apply zA | apply zB | apply zC | apply zD | apply zE | apply zF | apply zG) <;> intro)
  all_goals (try simp only [List.length_map, AV.d.injEq, D.int.injEq, D.bool.injEq, D.str.injEq, D.sl.injEq, true_and, and_true, decide_eq_true_eq, decide_eq_false_iff_not, decide_eq_decide])
  all_goals (try simp only [List.length_map] at *)
  all_goals first | rfl | omega

set_option maxRecDepth 100000 in
set_option maxHeartbeats 1000000 in
theorem rc20 (s : List Iv) (hl : s.length < 1000000) (j : Nat) (x y : Iv) (hx : s[j]? = some x) (hy : s[j + 1]? = some y) (h : ¬y.1 ≤ x.2) : Runs Try.prog 0 (loopN Try.prog 59 2) (St.as (C20 s (j+1)) 53) (.normal) (St.as (C20 s (j+1+1)) 53) := by
  refine round_wp (p := condP (decide ((↑(j + 1) : Int) < (↑(List.map ivD s).length : Int))) (((0 : Int) ≤ (↑(j + 1) : Int)) ∧ (((List.map ivD s)[(↑(j + 1) : Int).toNat]? = some (D.agg [D.int .i64 y.fst, D.int .i64 y.snd])) ∧ (((0 : Int) ≤ IntKind.i64.wrap ((↑(j + 1) : Int) - (1 : Int))) ∧ (((List.map ivD s)[(IntKind.i64.wrap ((↑(j + 1) : Int) - (1 : Int))).toNat]? = some (D.agg [D.int .i64 x.fst, D.int .i64 x.snd])) ∧ ((D.bool (decide (y.fst ≤ x.snd)) = D.bool false) ∧ ((AV.d (.sl (List.map ivD s)) = AV.d (.sl (List.map ivD s))) ∧ ((AV.d (.int .i64 (IntKind.i64.wrap ((↑(j + 1) : Int) + (1 : Int)))) = AV.d (.int .i64 (↑(j + 1 + 1) : Int))) ∧ (True)))))))) (False)) (h := {els := [(41, .el (ivD y)), (46, .el (ivD x))], H := [(14, [(11, .val (.bool false))])]}) (subs := []) (ws := []) (ρ := []) (by kernel_rfl) ?_
  have hj := get_lt hy
  have hi : IntKind.i64.wrap (((j + 1 : Nat) : Int) + 1) = ((j + 1 + 1 : Nat) : Int) := inc_i64 (by omega)
  have hw : IntKind.i64.wrap (((j + 1 : Nat) : Int) - 1) = (j : Int) := by rw [IntKind.wrap_i64]; omega
  simp only [hi, hw, List.length_map]
  refine condP_t (by rw [decide_eq_true_eq]; omega) ?_
  repeat' (with_reducible first | exact True.intro | apply And.intro | (first | apply zA | apply zB | apply zC | apply zD | apply zE | apply zF | apply zG) <;> intro)
  all_goals first | exact el_map hx rfl | exact el_map hy rfl | rfl | omega | exact dyes (by omega) | exact dno (by omega) | (exfalso; omega) | skip

set_option maxRecDepth 100000 in
set_option maxHeartbeats 1000000 in
theorem ec20 (s : List Iv) (hl : s.length < 1000000) (j : Nat) (x y : Iv) (hx : s[j]? = some x) (hy : s[j + 1]? = some y) (h : y.1 ≤ x.2) : Runs Try.prog 0 (loopN Try.prog 59 2) (St.as (C20 s (j+1)) 53) (.ret) (St.as (O19 10) 53) := by
  refine round_wp (p := condP (decide ((↑(j + 1) : Int) < (↑(List.map ivD s).length : Int))) (((0 : Int) ≤ (↑(j + 1) : Int)) ∧ (((List.map ivD s)[(↑(j + 1) : Int).toNat]? = some (D.agg [D.int .i64 y.fst, D.int .i64 y.snd])) ∧ (((0 : Int) ≤ IntKind.i64.wrap ((↑(j + 1) : Int) - (1 : Int))) ∧ (((List.map ivD s)[(IntKind.i64.wrap ((↑(j + 1) : Int) - (1 : Int))).toNat]? = some (D.agg [D.int .i64 x.fst, D.int .i64 x.snd])) ∧ ((D.bool (decide (y.fst ≤ x.snd)) = D.bool true) ∧ ((AV.d (.int .i64 (10 : Int)) = AV.d (.int .i64 (10 : Int))) ∧ (True))))))) (False)) (h := {els := [(41, .el (ivD y)), (46, .el (ivD x))], H := [(14, [(11, .val (.bool true))])]}) (subs := []) (ws := []) (ρ := []) (by kernel_rfl) ?_
  have hj := get_lt hy
  have hi : IntKind.i64.wrap (((j + 1 : Nat) : Int) + 1) = ((j + 1 + 1 : Nat) : Int) := inc_i64 (by omega)
  have hw : IntKind.i64.wrap (((j + 1 : Nat) : Int) - 1) = (j : Int) := by rw [IntKind.wrap_i64]; omega
  simp only [hi, hw, List.length_map]
  refine condP_t (by rw [decide_eq_true_eq]; omega) ?_
  repeat' (with_reducible first | exact True.intro | apply And.intro | (first | apply zA | apply zB | apply zC | apply zD | apply zE | apply zF | apply zG) <;> intro)
  all_goals first | exact el_map hx rfl | exact el_map hy rfl | rfl | omega | exact dyes (by omega) | exact dno (by omega) | (exfalso; omega) | skip

set_option maxRecDepth 100000 in
set_option maxHeartbeats 1000000 in
theorem qc20 (s : List Iv) (j : Nat) (hj : s.length ≤ j) : Runs Try.prog 0 (loopN Try.prog 59 2) (St.as (C20 s j) 53) (.exit 4) (St.as (C20 s j) 53) := by
  refine round_wp (p := condP (decide ((↑j : Int) < (↑(List.map ivD s).length : Int))) (False) ((AV.d (.sl (List.map ivD s)) = AV.d (.sl (List.map ivD s))) ∧ ((AV.d (.int .i64 (↑j : Int)) = AV.d (.int .i64 (↑j : Int))) ∧ (True)))) (h := {}) (subs := []) (ws := []) (ρ := []) (by kernel_rfl) ?_
  repeat' (with_reducible first | exact True.intro | apply And.intro | (first | apply zA | apply zB | apply zC | apply zD | apply zE | apply zF | apply zG) <;> intro)
  all_goals (try simp only [List.length_map, AV.d.injEq, D.int.injEq, D.bool.injEq, D.str.injEq, D.sl.injEq, true_and, and_true, decide_eq_true_eq, decide_eq_false_iff_not, decide_eq_decide])
  all_goals (try simp only [List.length_map] at *)
  all_goals first | rfl | omega

theorem lc20 (s : List Iv) (hl : s.length < 1000000) : ∀ (m : List Iv) (j : Nat), s.drop j = m →
    (ordB m = false → ∃ k, Loops Try.prog 0 (loopN Try.prog 59 2) ((C20 s (j+1)).as 53) (.exit 4) ((C20 s k).as 53)) ∧
    (ordB m = true → Loops Try.prog 0 (loopN Try.prog 59 2) ((C20 s (j+1)).as 53) .ret ((O19 10).as 53))
  | [], j, hd => by
    have : s.length ≤ j := List.drop_eq_nil_iff.1 hd
    exact ⟨fun _ => ⟨_, .out (qc20 s (j+1) (by omega)) (by simp)⟩, fun h => by cases h⟩
  | [x], j, hd => by
    have h1 : (s.drop j).length = 1 := by rw [hd]; rfl
    rw [List.length_drop] at h1
    exact ⟨fun _ => ⟨_, .out (qc20 s (j+1) (by omega)) (by simp)⟩, fun h => by cases h⟩
  | x :: y :: r, j, hd => by
    have hx : s[j]? = some x := by
      have : (s.drop j)[0]? = some x := by rw [hd]; rfl
      rw [List.getElem?_drop] at this; exact this
    have hy : s[j + 1]? = some y := by
      have : (s.drop j)[1]? = some y := by rw [hd]; rfl
      rw [List.getElem?_drop] at this; exact this
    have hd2 : s.drop (j + 1) = y :: r := by rw [← List.drop_drop, hd]; rfl
    obtain ⟨i1, i2⟩ := lc20 s hl (y :: r) (j + 1) hd2
    show ((decide (y.1 ≤ x.2) || ordB (y :: r)) = false → _) ∧ ((decide (y.1 ≤ x.2) || ordB (y :: r)) = true → _)
    by_cases h : y.1 ≤ x.2
    · rw [decide_eq_true h]
      exact ⟨fun h => by simp at h, fun _ => .out (ec20 s hl j x y hx hy h) (by simp)⟩
    · rw [decide_eq_false h, Bool.false_or]
      refine ⟨fun g => ?_, fun g => ?_⟩
      · obtain ⟨k, hk⟩ := i1 g
        exact ⟨k, .next (rc20 s hl j x y hx hy h) hk⟩
      · exact .next (rc20 s hl j x y hx hy h) (i2 g)
set_option maxRecDepth 100000 in
set_option maxHeartbeats 1000000 in
theorem chk20a (s : List Iv) (hB : True) (hC : True) (hA : Loops Try.prog 0 (loopN Try.prog 59 0) ((A20 s 0).as 53) .ret ((O19 8).as 53)) : FnOK Try.prog 59 ([.d (.sl (s.map ivD))]) ([]) (.d (.int .i64 8)) ([]) := by
  refine fnOK_wp (p := (AV.d (.sl (List.map ivD s)) = AV.d (.sl (List.map ivD s))) ∧ ((AV.d (.int .i64 (0 : Int)) = AV.d (.int .i64 (0 : Int))) ∧ ((LoopsS Try.prog 0 (loopN Try.prog 59 0) (A20 s 0) Exit.ret (O19 (8 : Int)) 53) ∧ ((AV.d (.int .i64 (8 : Int)) = AV.d (.int .i64 (8 : Int))) ∧ (True))))) (h := {}) (subs := [⟨[], [], A20 s 0, .ret, O19 8⟩]) (ws := []) (ρ := []) (by kernel_rfl) ?_
  repeat' (with_reducible first | exact True.intro | apply And.intro | (first | apply zA | apply zB | apply zC | apply zD | apply zE | apply zF | apply zG) <;> intro)
  all_goals first | exact hA | exact hB | exact hC | rfl | skip

set_option maxRecDepth 100000 in
set_option maxHeartbeats 1000000 in
theorem chk20b (s : List Iv) (hA : Loops Try.prog 0 (loopN Try.prog 59 0) ((A20 s 0).as 53) (.exit 0) ((A20 s s.length).as 53)) (hC : True) (hB : Loops Try.prog 0 (loopN Try.prog 59 1) ((B20 s 0).as 53) .ret ((O19 4).as 53)) : FnOK Try.prog 59 ([.d (.sl (s.map ivD))]) ([]) (.d (.int .i64 4)) ([]) := by
  refine fnOK_wp (p := (AV.d (.sl (List.map ivD s)) = AV.d (.sl (List.map ivD s))) ∧ ((AV.d (.int .i64 (0 : Int)) = AV.d (.int .i64 (0 : Int))) ∧ ((LoopsS Try.prog 0 (loopN Try.prog 59 0) (A20 s 0) (Exit.exit 0) (A20 s s.length) 53) ∧ ((AV.d (.sl (List.map ivD s)) = AV.d (.sl (List.map ivD s))) ∧ ((AV.d (.int .i64 (0 : Int)) = AV.d (.int .i64 (0 : Int))) ∧ ((LoopsS Try.prog 0 (loopN Try.prog 59 1) (B20 s 0) Exit.ret (O19 (4 : Int)) 53) ∧ ((AV.d (.int .i64 (4 : Int)) = AV.d (.int .i64 (4 : Int))) ∧ (True)))))))) (h := {}) (subs := [⟨[], [], A20 s 0, .exit 0, A20 s s.length⟩, ⟨[], [], B20 s 0, .ret, O19 4⟩]) (ws := []) (ρ := []) (by kernel_rfl) ?_
  repeat' (with_reducible first | exact True.intro | apply And.intro | (first | apply zA | apply zB | apply zC | apply zD | apply zE | apply zF | apply zG) <;> intro)
  all_goals first | exact hA | exact hB | exact hC | rfl | skip

set_option maxRecDepth 100000 in
set_option maxHeartbeats 1000000 in
theorem chk20c (s : List Iv) (hA : Loops Try.prog 0 (loopN Try.prog 59 0) ((A20 s 0).as 53) (.exit 0) ((A20 s s.length).as 53)) (hB : Loops Try.prog 0 (loopN Try.prog 59 1) ((B20 s 0).as 53) (.exit 2) ((B20 s s.length).as 53)) (hC : Loops Try.prog 0 (loopN Try.prog 59 2) ((C20 s (0+1)).as 53) .ret ((O19 10).as 53)) : FnOK Try.prog 59 ([.d (.sl (s.map ivD))]) ([]) (.d (.int .i64 10)) ([]) := by
  refine fnOK_wp (p := (AV.d (.sl (List.map ivD s)) = AV.d (.sl (List.map ivD s))) ∧ ((AV.d (.int .i64 (0 : Int)) = AV.d (.int .i64 (0 : Int))) ∧ ((LoopsS Try.prog 0 (loopN Try.prog 59 0) (A20 s 0) (Exit.exit 0) (A20 s s.length) 53) ∧ ((AV.d (.sl (List.map ivD s)) = AV.d (.sl (List.map ivD s))) ∧ ((AV.d (.int .i64 (0 : Int)) = AV.d (.int .i64 (0 : Int))) ∧ ((LoopsS Try.prog 0 (loopN Try.prog 59 1) (B20 s 0) (Exit.exit 2) (B20 s s.length) 53) ∧ ((AV.d (.sl (List.map ivD s)) = AV.d (.sl (List.map ivD s))) ∧ ((AV.d (.int .i64 (1 : Int)) = AV.d (.int .i64 (1 : Int))) ∧ ((LoopsS Try.prog 0 (loopN Try.prog 59 2) (C20 s (0 + 1)) Exit.ret (O19 (10 : Int)) 53) ∧ ((AV.d (.int .i64 (10 : Int)) = AV.d (.int .i64 (10 : Int))) ∧ (True))))))))))) (h := {}) (subs := [⟨[], [], A20 s 0, .exit 0, A20 s s.length⟩, ⟨[], [], B20 s 0, .exit 2, B20 s s.length⟩, ⟨[], [], C20 s (0+1), .ret, O19 10⟩]) (ws := []) (ρ := []) (by kernel_rfl) ?_
  repeat' (with_reducible first | exact True.intro | apply And.intro | (first | apply zA | apply zB | apply zC | apply zD | apply zE | apply zF | apply zG) <;> intro)
  all_goals first | exact hA | exact hB | exact hC | rfl | skip

set_option maxRecDepth 100000 in
set_option maxHeartbeats 1000000 in
theorem chk20d (s : List Iv) (k : Nat) (hA : Loops Try.prog 0 (loopN Try.prog 59 0) ((A20 s 0).as 53) (.exit 0) ((A20 s s.length).as 53)) (hB : Loops Try.prog 0 (loopN Try.prog 59 1) ((B20 s 0).as 53) (.exit 2) ((B20 s s.length).as 53)) (hC : Loops Try.prog 0 (loopN Try.prog 59 2) ((C20 s (0+1)).as 53) (.exit 4) ((C20 s k).as 53)) : FnOK Try.prog 59 ([.d (.sl (s.map ivD))]) ([]) (.d (.int .i64 0)) ([]) := by
  refine fnOK_wp (p := (AV.d (.sl (List.map ivD s)) = AV.d (.sl (List.map ivD s))) ∧ ((AV.d (.int .i64 (0 : Int)) = AV.d (.int .i64 (0 : Int))) ∧ ((LoopsS Try.prog 0 (loopN Try.prog 59 0) (A20 s 0) (Exit.exit 0) (A20 s s.length) 53) ∧ ((AV.d (.sl (List.map ivD s)) = AV.d (.sl (List.map ivD s))) ∧ ((AV.d (.int .i64 (0 : Int)) = AV.d (.int .i64 (0 : Int))) ∧ ((LoopsS Try.prog 0 (loopN Try.prog 59 1) (B20 s 0) (Exit.exit 2) (B20 s s.length) 53) ∧ ((AV.d (.sl (List.map ivD s)) = AV.d (.sl (List.map ivD s))) ∧ ((AV.d (.int .i64 (1 : Int)) = AV.d (.int .i64 (1 : Int))) ∧ ((LoopsS Try.prog 0 (loopN Try.prog 59 2) (C20 s (0 + 1)) (Exit.exit 4) (C20 s k) 53) ∧ ((AV.d (.int .i64 (0 : Int)) = AV.d (.int .i64 (0 : Int))) ∧ (True))))))))))) (h := {}) (subs := [⟨[], [], A20 s 0, .exit 0, A20 s s.length⟩, ⟨[], [], B20 s 0, .exit 2, B20 s s.length⟩, ⟨[], [], C20 s (0+1), .exit 4, C20 s k⟩]) (ws := []) (ρ := []) (by kernel_rfl) ?_
  repeat' (with_reducible first | exact True.intro | apply And.intro | (first | apply zA | apply zB | apply zC | apply zD | apply zE | apply zF | apply zG) <;> intro)
  all_goals first | exact hA | exact hB | exact hC | rfl | skip

theorem chk20 (s : List Iv) (hl : s.length < 1000000) : FnOK Try.prog 59 [.d (.sl (s.map ivD))] [] (.d (.int .i64 (iChk s))) [] := by
  obtain ⟨a1, a2⟩ := loops_any (k := 0) (c := loopN Try.prog 59 0) (I := fun j => (A20 s j).as 53) (R := (O19 8).as 53) (E := (A20 s s.length).as 53) (e := .exit 0) (s := s) (fun x => !mayB x) (by simp) (fun j x hx hp => ra20 s hl j x hx (by simpa using hp)) (fun j x hx hp => ea20 s hl j x hx (by simpa using hp)) (qa20 s) s 0 (by omega) rfl
  obtain ⟨b1, b2⟩ := loops_any (k := 0) (c := loopN Try.prog 59 1) (I := fun j => (B20 s j).as 53) (R := (O19 4).as 53) (E := (B20 s s.length).as 53) (e := .exit 2) (s := s) noneB (by simp) (fun j x hx hp => rb20 s hl j x hx (of_decide_eq_false hp)) (fun j x hx hp => eb20 s hl j x hx (of_decide_eq_true hp)) (qb20 s) s 0 (by omega) rfl
  obtain ⟨c1, c2⟩ := lc20 s hl s 0 rfl
  unfold iChk
  cases h1 : s.any (fun x => !mayB x)
  · rw [if_neg (by simp)]
    cases h2 : s.any noneB
    · rw [if_neg (by simp)]
      cases h3 : ordB s
      · rw [if_neg (by simp)]
        obtain ⟨k, hk⟩ := c1 h3
        exact chk20d s k (a1 h1) (b1 h2) hk
      · rw [if_pos rfl]
        exact chk20c s (a1 h1) (b1 h2) (c2 h3)
    · rw [if_pos rfl]
      exact chk20b s (a1 h1) trivial (b2 h2)
  · rw [if_pos rfl]
    exact chk20a s trivial trivial (a2 h1)
/-! ### Has -/
def I25 (s : List Iv) (n : Int) (j : Nat) : St := ⟨[(0, .d (.sl (s.map ivD))), (1, .d (.int .i64 n)), (5, .d (.int .i64 j))], []⟩
def O25 : St := ⟨[(4, .d (.bool true))], []⟩
set_option maxRecDepth 100000 in
set_option maxHeartbeats 1000000 in
theorem r25a (s : List Iv) (hl : s.length < 1000000) (j : Nat) (y : Iv) (hy : s[j]? = some y) (n : Int) (h : ¬n ≥ y.1) : Runs Try.prog 0 (loopN Try.prog 89 0) (St.as (I25 s n j) 28) (.normal) (St.as (I25 s n (j+1)) 28) := by
  refine round_wp (p := condP (decide ((↑j : Int) < (↑(List.map ivD s).length : Int))) (((0 : Int) ≤ (↑j : Int)) ∧ (((List.map ivD s)[(↑j : Int).toNat]? = some (D.agg [D.int .i64 y.fst, D.int .i64 y.snd])) ∧ ((D.bool (decide (n ≥ y.fst)) = D.bool false) ∧ ((D.bool false = D.bool false) ∧ ((AV.d (.sl (List.map ivD s)) = AV.d (.sl (List.map ivD s))) ∧ ((AV.d (.int .i64 n) = AV.d (.int .i64 n)) ∧ ((AV.d (.int .i64 (IntKind.i64.wrap ((↑j : Int) + (1 : Int)))) = AV.d (.int .i64 (↑(j + 1) : Int))) ∧ (True)))))))) (False)) (h := {els := [(13, .el (ivD y))], H := [(4, [(6, .val (.bool false))])]}) (subs := []) (ws := []) (ρ := []) (by kernel_rfl) ?_
  have hj := get_lt hy
  have hi := inc_i64 (j := j) (by omega)
  have k1 := may34 y
  try simp only [hi]
  try simp only [List.length_map]
  refine condP_t (by rw [decide_eq_true_eq]; omega) ?_
  repeat' (with_reducible first | exact True.intro | apply And.intro | (first | apply zA | apply zB | apply zC | apply zD | apply zE | apply zF | apply zG) <;> intro)
  all_goals first | exact h ▸ k1 | exact el_map hy rfl | rfl | omega | exact dyes (by omega) | exact dno (by omega) | (exfalso; omega) | skip

set_option maxRecDepth 100000 in
set_option maxHeartbeats 1000000 in
theorem r25b (s : List Iv) (hl : s.length < 1000000) (j : Nat) (y : Iv) (hy : s[j]? = some y) (n : Int) (h : n ≥ y.1) (h2 : ¬n < y.2) : Runs Try.prog 0 (loopN Try.prog 89 0) (St.as (I25 s n j) 28) (.normal) (St.as (I25 s n (j+1)) 28) := by
  refine round_wp (p := condP (decide ((↑j : Int) < (↑(List.map ivD s).length : Int))) (((0 : Int) ≤ (↑j : Int)) ∧ (((List.map ivD s)[(↑j : Int).toNat]? = some (D.agg [D.int .i64 y.fst, D.int .i64 y.snd])) ∧ ((D.bool (decide (n ≥ y.fst)) = D.bool true) ∧ ((D.bool true = D.bool true) ∧ (((0 : Int) ≤ (↑j : Int)) ∧ (((List.map ivD s)[(↑j : Int).toNat]? = some (D.agg [D.int .i64 y.fst, D.int .i64 y.snd])) ∧ ((D.bool (decide (n < y.snd)) = D.bool false) ∧ ((AV.d (.sl (List.map ivD s)) = AV.d (.sl (List.map ivD s))) ∧ ((AV.d (.int .i64 n) = AV.d (.int .i64 n)) ∧ ((AV.d (.int .i64 (IntKind.i64.wrap ((↑j : Int) + (1 : Int)))) = AV.d (.int .i64 (↑(j + 1) : Int))) ∧ (True))))))))))) (False)) (h := {els := [(13, .el (ivD y)), (21, .el (ivD y))], H := [(4, [(6, .val (.bool true)), (14, .val (.bool false))])]}) (subs := []) (ws := []) (ρ := []) (by kernel_rfl) ?_
  have hj := get_lt hy
  have hi := inc_i64 (j := j) (by omega)
  have k1 := may34 y
  try simp only [hi]
  try simp only [List.length_map]
  refine condP_t (by rw [decide_eq_true_eq]; omega) ?_
  repeat' (with_reducible first | exact True.intro | apply And.intro | (first | apply zA | apply zB | apply zC | apply zD | apply zE | apply zF | apply zG) <;> intro)
  all_goals first | exact h ▸ k1 | exact el_map hy rfl | rfl | omega | exact dyes (by omega) | exact dno (by omega) | (exfalso; omega) | skip

set_option maxRecDepth 100000 in
set_option maxHeartbeats 1000000 in
theorem e25 (s : List Iv) (hl : s.length < 1000000) (j : Nat) (y : Iv) (hy : s[j]? = some y) (n : Int) (h : n ≥ y.1) (h2 : n < y.2) : Runs Try.prog 0 (loopN Try.prog 89 0) (St.as (I25 s n j) 28) (.ret) (St.as (O25) 28) := by
  refine round_wp (p := condP (decide ((↑j : Int) < (↑(List.map ivD s).length : Int))) (((0 : Int) ≤ (↑j : Int)) ∧ (((List.map ivD s)[(↑j : Int).toNat]? = some (D.agg [D.int .i64 y.fst, D.int .i64 y.snd])) ∧ ((D.bool (decide (n ≥ y.fst)) = D.bool true) ∧ ((D.bool true = D.bool true) ∧ (((0 : Int) ≤ (↑j : Int)) ∧ (((List.map ivD s)[(↑j : Int).toNat]? = some (D.agg [D.int .i64 y.fst, D.int .i64 y.snd])) ∧ ((D.bool (decide (n < y.snd)) = D.bool true) ∧ ((AV.d (.bool true) = AV.d (.bool true)) ∧ (True))))))))) (False)) (h := {els := [(13, .el (ivD y)), (21, .el (ivD y))], H := [(4, [(6, .val (.bool true)), (14, .val (.bool true))])]}) (subs := []) (ws := []) (ρ := []) (by kernel_rfl) ?_
  have hj := get_lt hy
  have hi := inc_i64 (j := j) (by omega)
  have k1 := may34 y
  try simp only [hi]
  try simp only [List.length_map]
  refine condP_t (by rw [decide_eq_true_eq]; omega) ?_
  repeat' (with_reducible first | exact True.intro | apply And.intro | (first | apply zA | apply zB | apply zC | apply zD | apply zE | apply zF | apply zG) <;> intro)
  all_goals first | exact h ▸ k1 | exact el_map hy rfl | rfl | omega | exact dyes (by omega) | exact dno (by omega) | (exfalso; omega) | skip

set_option maxRecDepth 100000 in
set_option maxHeartbeats 1000000 in
theorem q25 (s : List Iv) (n : Int) : Runs Try.prog 0 (loopN Try.prog 89 0) (St.as (I25 s n s.length) 28) (.exit 0) (St.as (I25 s n s.length) 28) := by
  refine round_wp (p := condP (decide ((↑s.length : Int) < (↑(List.map ivD s).length : Int))) (False) ((AV.d (.sl (List.map ivD s)) = AV.d (.sl (List.map ivD s))) ∧ ((AV.d (.int .i64 n) = AV.d (.int .i64 n)) ∧ ((AV.d (.int .i64 (↑s.length : Int)) = AV.d (.int .i64 (↑s.length : Int))) ∧ (True))))) (h := {}) (subs := []) (ws := []) (ρ := []) (by kernel_rfl) ?_
  repeat' (with_reducible first | exact True.intro | apply And.intro | (first | apply zA | apply zB | apply zC | apply zD | apply zE | apply zF | apply zG) <;> intro)
  all_goals (try simp only [List.length_map, AV.d.injEq, D.int.injEq, D.bool.injEq, D.str.injEq, D.sl.injEq, true_and, and_true, decide_eq_true_eq, decide_eq_false_iff_not, decide_eq_decide])
  all_goals (try simp only [List.length_map] at *)
  all_goals first | rfl | omega

set_option maxRecDepth 100000 in
set_option maxHeartbeats 1000000 in
theorem has25n (s : List Iv) (n : Int) (hB : True) (hC : True) (hA : Loops Try.prog 0 (loopN Try.prog 89 0) ((I25 s n 0).as 28) (.exit 0) ((I25 s n s.length).as 28)) : FnOK Try.prog 89 ([.d (.sl (s.map ivD)), .d (.int .i64 n)]) ([]) (.d (.bool false)) ([]) := by
  refine fnOK_wp (p := (AV.d (.sl (List.map ivD s)) = AV.d (.sl (List.map ivD s))) ∧ ((AV.d (.int .i64 n) = AV.d (.int .i64 n)) ∧ ((AV.d (.int .i64 (0 : Int)) = AV.d (.int .i64 (0 : Int))) ∧ ((LoopsS Try.prog 0 (loopN Try.prog 89 0) (I25 s n 0) (Exit.exit 0) (I25 s n s.length) 28) ∧ ((AV.d (.bool false) = AV.d (.bool false)) ∧ (True)))))) (h := {}) (subs := [⟨[], [], I25 s n 0, .exit 0, I25 s n s.length⟩]) (ws := []) (ρ := []) (by kernel_rfl) ?_
  repeat' (with_reducible first | exact True.intro | apply And.intro | (first | apply zA | apply zB | apply zC | apply zD | apply zE | apply zF | apply zG) <;> intro)
  all_goals first | exact hA | exact hB | exact hC | rfl | skip

set_option maxRecDepth 100000 in
set_option maxHeartbeats 1000000 in
theorem has25y (s : List Iv) (n : Int) (hB : True) (hC : True) (hA : Loops Try.prog 0 (loopN Try.prog 89 0) ((I25 s n 0).as 28) .ret (O25.as 28)) : FnOK Try.prog 89 ([.d (.sl (s.map ivD)), .d (.int .i64 n)]) ([]) (.d (.bool true)) ([]) := by
  refine fnOK_wp (p := (AV.d (.sl (List.map ivD s)) = AV.d (.sl (List.map ivD s))) ∧ ((AV.d (.int .i64 n) = AV.d (.int .i64 n)) ∧ ((AV.d (.int .i64 (0 : Int)) = AV.d (.int .i64 (0 : Int))) ∧ ((LoopsS Try.prog 0 (loopN Try.prog 89 0) (I25 s n 0) Exit.ret O25 28) ∧ ((AV.d (.bool true) = AV.d (.bool true)) ∧ (True)))))) (h := {}) (subs := [⟨[], [], I25 s n 0, .ret, O25⟩]) (ws := []) (ρ := []) (by kernel_rfl) ?_
  repeat' (with_reducible first | exact True.intro | apply And.intro | (first | apply zA | apply zB | apply zC | apply zD | apply zE | apply zF | apply zG) <;> intro)
  all_goals first | exact hA | exact hB | exact hC | rfl | skip

theorem has25 (s : List Iv) (hl : s.length < 1000000) (n : Int) : FnOK Try.prog 89 [.d (.sl (s.map ivD)), .d (.int .i64 n)] [] (.d (.bool (has s n))) [] := by
  obtain ⟨a1, a2⟩ := loops_any (k := 0) (c := loopN Try.prog 89 0) (I := fun j => (I25 s n j).as 28) (R := O25.as 28) (E := (I25 s n s.length).as 28) (e := .exit 0) (s := s) (fun x => decide (x.1 ≤ n ∧ n < x.2)) (by simp) (fun j x hx hp => by
    have hp := of_decide_eq_false hp
    by_cases g : n ≥ x.1
    · exact r25b s hl j x hx n g (by omega)
    · exact r25a s hl j x hx n g) (fun j x hx hp => e25 s hl j x hx n (of_decide_eq_true hp).1 (of_decide_eq_true hp).2) (q25 s n) s 0 (by omega) rfl
  cases h : has s n
  · exact has25n s n trivial trivial (a1 h)
  · exact has25y s n trivial trivial (a2 h)
end Go.Proofs.Ytfllhedkgeljaaa.C06
