/-
laws 06: the document's ends.
-/
import Derived.Test.YtfllhedkgeljaaaC06S9
set_option linter.unusedSimpArgs false
set_option linter.unusedVariables false
namespace Go.Proofs.Ytfllhedkgeljaaa.C06
open Sx Go.RowKit

abbrev iD : Int → D := .int .i64
def flat (s : List Iv) : List Int := s.flatMap fun x => [x.1, x.2]
theorem flat_cons (x : Iv) (s : List Iv) : flat (x :: s) = x.1 :: x.2 :: flat s := by unfold flat; rw [List.flatMap_cons]; rfl
theorem flat_snoc (s : List Iv) (x : Iv) : flat (s ++ [x]) = flat s ++ [x.1, x.2] := by unfold flat; rw [List.flatMap_append]; simp
theorem flat_len : ∀ s : List Iv, (flat s).length = 2 * s.length
  | [] => rfl
  | x :: s => by rw [flat_cons, List.length_cons, List.length_cons, flat_len s, List.length_cons]; omega
/-- Where a number comes in. -/
def kOf (o : List Int) (v : Int) : Nat := (o.takeWhile (fun u => decide (u < v))).length
def ins1 (o : List Int) (v : Int) : List Int := if o[kOf o v]? = some v then o else o.take (kOf o v) ++ [v] ++ o.drop (kOf o v)
def rEnds (a b : List Iv) : List Int := (flat a ++ flat b).foldl ins1 []
theorem kOf_le (v : Int) : ∀ o : List Int, kOf o v ≤ o.length
  | [] => Nat.le_refl _
  | u :: o => by
    have := kOf_le v o
    unfold kOf at this ⊢
    rw [List.takeWhile_cons]
    split
    · rw [List.length_cons, List.length_cons]; omega
    · exact Nat.zero_le _
theorem kOf_lt (v : Int) : ∀ (o : List Int) (j : Nat) (u : Int), j < kOf o v → o[j]? = some u → u < v
  | [], j, u, h, _ => by cases h
  | w :: o, j, u, h, hu => by
    unfold kOf at h
    rw [List.takeWhile_cons] at h
    split at h
    · rename_i hw
      cases j with
      | zero => simp at hu; subst hu; exact of_decide_eq_true hw
      | succ j => exact kOf_lt v o j u (by rw [List.length_cons] at h; unfold kOf; omega) (by simpa using hu)
    · cases h
theorem kOf_at (v : Int) : ∀ (o : List Int) (u : Int), o[kOf o v]? = some u → ¬ u < v
  | [], u, hu => by cases hu
  | w :: o, u, hu => by
    unfold kOf at hu
    rw [List.takeWhile_cons] at hu
    split at hu
    · rw [List.length_cons] at hu
      exact kOf_at v o u (by unfold kOf; simpa using hu)
    · rename_i hw
      simp at hu; subst hu
      simpa using hw
theorem ins1_len (o : List Int) (v : Int) : (ins1 o v).length ≤ o.length + 1 := by
  unfold ins1
  split
  · omega
  · have := kOf_le v o
    simp only [List.length_append, List.length_take, List.length_drop, List.length_cons, List.length_nil]
    omega
theorem insF_len : ∀ (l o : List Int), (l.foldl ins1 o).length ≤ o.length + l.length
  | [], o => by simp
  | v :: l, o => by
    have := insF_len l (ins1 o v)
    have := ins1_len o v
    rw [List.foldl_cons, List.length_cons]; omega
theorem iD_cells {l : List D} {o : List Int} (h : ∀ e ∈ l, e ∈ o.map iD) : ∀ e ∈ l, e.cells.length = 1 := fun e he => by
  obtain ⟨y, -, rfl⟩ := List.mem_map.1 (h e he)
  rfl
def A44 (a b : List Iv) (l : List Int) (j : Nat) : St := ⟨[(0, .d (.sl (a.map ivD))), (1, .d (.sl (b.map ivD))), (5, .own 0 1), (6, .d (.int .i64 j))], [(0, .row 1 (l.map iD))]⟩
def B44 (b : List Iv) (l : List Int) (j : Nat) : St := ⟨[(1, .d (.sl (b.map ivD))), (5, .own 0 1), (7, .d (.int .i64 j))], [(0, .row 1 (l.map iD))]⟩
def C44 (l o : List Int) (j : Nat) : St := ⟨[(5, .d (.sl (l.map iD))), (8, .d (.sl (o.map iD))), (9, .d (.int .i64 j))], []⟩
def D44 (l o : List Int) (j k : Nat) : St := ⟨[(5, .d (.sl (l.map iD))), (8, .d (.sl (o.map iD))), (9, .d (.int .i64 j)), (10, .d (.int .i64 k))], []⟩
set_option maxRecDepth 100000 in
set_option maxHeartbeats 1000000 in
theorem ra44 (a b : List Iv) (ha : a.length < 1000000) (l : List Int) (hl : l.length < 1000000) (j : Nat) (y : Iv) (hy : a[j]? = some y) : Runs Try.prog 0 (loopN Try.prog 88 0) (St.as (A44 a b l j) 104) (.normal) (St.as (A44 a b (l ++ [y.1, y.2]) (j+1)) 104) := by
  refine round_wp (p := condP (decide ((↑j : Int) < (↑(List.map ivD a).length : Int))) (((0 : Int) ≤ (↑j : Int)) ∧ (((List.map ivD a)[(↑j : Int).toNat]? = some (D.agg [D.int .i64 y.fst, D.int .i64 y.snd])) ∧ (((0 : Int) ≤ (↑j : Int)) ∧ (((List.map ivD a)[(↑j : Int).toNat]? = some (D.agg [D.int .i64 y.fst, D.int .i64 y.snd])) ∧ ((((List.map iD l).length + [D.int .i64 y.fst, D.int .i64 y.snd].length) * 8 ≤ 140737488355328) ∧ ((∀ (e : D), e ∈ [D.int .i64 y.fst, D.int .i64 y.snd] → e.cells.length = 1) ∧ ((AV.d (.sl (List.map ivD a)) = AV.d (.sl (List.map ivD a))) ∧ ((AV.d (.sl (List.map ivD b)) = AV.d (.sl (List.map ivD b))) ∧ ((AV.own 1240 1 = AV.own 1240 1) ∧ ((AV.d (.int .i64 (IntKind.i64.wrap ((↑j : Int) + (1 : Int)))) = AV.d (.int .i64 (↑(j + 1) : Int))) ∧ ((Ob.row 1 (List.map iD l ++ [D.int .i64 y.fst, D.int .i64 y.snd]) = Ob.row 1 (List.map iD (l ++ [y.fst, y.snd]))) ∧ (True)))))))))))) (False)) (h := {els := [(19, .el (ivD y)), (24, .el (ivD y))]}) (subs := []) (ws := []) (ρ := []) (by kernel_rfl) ?_
  have hj := get_lt hy
  have hi := inc_i64 (j := j) (by omega)
  have e5 : l.map iD ++ [iD y.1, iD y.2] = (l ++ [y.1, y.2]).map iD := by simp
  try simp only [hi]
  try simp only [List.length_map]
  refine condP_t (by rw [decide_eq_true_eq]; omega) ?_
  repeat' (with_reducible first | exact True.intro | apply And.intro | (first | apply zA | apply zB | apply zC | apply zD | apply zE | apply zF | apply zG) <;> intro)
  all_goals first | exact el_map hy rfl | rfl | omega | exact congrArg (Ob.row 1) e5 | (simp only [List.length_cons, List.length_nil]; omega) | (simp [chunk, D.cells]; done) | (simp [iD]; done) | skip

set_option maxRecDepth 100000 in
set_option maxHeartbeats 1000000 in
theorem qa44 (a b : List Iv) (l : List Int) : Runs Try.prog 0 (loopN Try.prog 88 0) (St.as (A44 a b l a.length) 104) (.exit 0) (St.as (A44 a b l a.length) 104) := by
  refine round_wp (p := condP (decide ((↑a.length : Int) < (↑(List.map ivD a).length : Int))) (False) ((AV.d (.sl (List.map ivD a)) = AV.d (.sl (List.map ivD a))) ∧ ((AV.d (.sl (List.map ivD b)) = AV.d (.sl (List.map ivD b))) ∧ ((AV.own 0 1 = AV.own 0 1) ∧ ((AV.d (.int .i64 (↑a.length : Int)) = AV.d (.int .i64 (↑a.length : Int))) ∧ ((Ob.row 1 (List.map iD l) = Ob.row 1 (List.map iD l)) ∧ (True))))))) (h := {}) (subs := []) (ws := []) (ρ := []) (by kernel_rfl) ?_
  repeat' (with_reducible first | exact True.intro | apply And.intro | (first | apply zA | apply zB | apply zC | apply zD | apply zE | apply zF | apply zG) <;> intro)
  all_goals (try simp only [List.length_map, AV.d.injEq, D.int.injEq, D.bool.injEq, D.str.injEq, D.sl.injEq, true_and, and_true, decide_eq_true_eq, decide_eq_false_iff_not, decide_eq_decide])
  all_goals (try simp only [List.length_map] at *)
  all_goals first | rfl | omega

set_option maxRecDepth 100000 in
set_option maxHeartbeats 1000000 in
theorem rb44 (b : List Iv) (hb : b.length < 1000000) (l : List Int) (hl : l.length < 1000000) (j : Nat) (y : Iv) (hy : b[j]? = some y) : Runs Try.prog 0 (loopN Try.prog 88 1) (St.as (B44 b l j) 104) (.normal) (St.as (B44 b (l ++ [y.1, y.2]) (j+1)) 104) := by
  refine round_wp (p := condP (decide ((↑j : Int) < (↑(List.map ivD b).length : Int))) (((0 : Int) ≤ (↑j : Int)) ∧ (((List.map ivD b)[(↑j : Int).toNat]? = some (D.agg [D.int .i64 y.fst, D.int .i64 y.snd])) ∧ (((0 : Int) ≤ (↑j : Int)) ∧ (((List.map ivD b)[(↑j : Int).toNat]? = some (D.agg [D.int .i64 y.fst, D.int .i64 y.snd])) ∧ ((((List.map iD l).length + [D.int .i64 y.fst, D.int .i64 y.snd].length) * 8 ≤ 140737488355328) ∧ ((∀ (e : D), e ∈ [D.int .i64 y.fst, D.int .i64 y.snd] → e.cells.length = 1) ∧ ((AV.d (.sl (List.map ivD b)) = AV.d (.sl (List.map ivD b))) ∧ ((AV.own 1392 1 = AV.own 1392 1) ∧ ((AV.d (.int .i64 (IntKind.i64.wrap ((↑j : Int) + (1 : Int)))) = AV.d (.int .i64 (↑(j + 1) : Int))) ∧ ((Ob.row 1 (List.map iD l ++ [D.int .i64 y.fst, D.int .i64 y.snd]) = Ob.row 1 (List.map iD (l ++ [y.fst, y.snd]))) ∧ (True))))))))))) (False)) (h := {els := [(38, .el (ivD y)), (43, .el (ivD y))]}) (subs := []) (ws := []) (ρ := []) (by kernel_rfl) ?_
  have hj := get_lt hy
  have hi := inc_i64 (j := j) (by omega)
  have e5 : l.map iD ++ [iD y.1, iD y.2] = (l ++ [y.1, y.2]).map iD := by simp
  try simp only [hi]
  try simp only [List.length_map]
  refine condP_t (by rw [decide_eq_true_eq]; omega) ?_
  repeat' (with_reducible first | exact True.intro | apply And.intro | (first | apply zA | apply zB | apply zC | apply zD | apply zE | apply zF | apply zG) <;> intro)
  all_goals first | exact el_map hy rfl | rfl | omega | exact congrArg (Ob.row 1) e5 | (simp only [List.length_cons, List.length_nil]; omega) | (simp [chunk, D.cells]; done) | (simp [iD]; done) | skip

set_option maxRecDepth 100000 in
set_option maxHeartbeats 1000000 in
theorem qb44 (b : List Iv) (l : List Int) : Runs Try.prog 0 (loopN Try.prog 88 1) (St.as (B44 b l b.length) 104) (.exit 2) (St.as (B44 b l b.length) 104) := by
  refine round_wp (p := condP (decide ((↑b.length : Int) < (↑(List.map ivD b).length : Int))) (False) ((AV.d (.sl (List.map ivD b)) = AV.d (.sl (List.map ivD b))) ∧ ((AV.own 0 1 = AV.own 0 1) ∧ ((AV.d (.int .i64 (↑b.length : Int)) = AV.d (.int .i64 (↑b.length : Int))) ∧ ((Ob.row 1 (List.map iD l) = Ob.row 1 (List.map iD l)) ∧ (True)))))) (h := {}) (subs := []) (ws := []) (ρ := []) (by kernel_rfl) ?_
  repeat' (with_reducible first | exact True.intro | apply And.intro | (first | apply zA | apply zB | apply zC | apply zD | apply zE | apply zF | apply zG) <;> intro)
  all_goals (try simp only [List.length_map, AV.d.injEq, D.int.injEq, D.bool.injEq, D.str.injEq, D.sl.injEq, true_and, and_true, decide_eq_true_eq, decide_eq_false_iff_not, decide_eq_decide])
  all_goals (try simp only [List.length_map] at *)
  all_goals first | rfl | omega

set_option maxRecDepth 100000 in
set_option maxHeartbeats 1000000 in
theorem rd44 (l o : List Int) (hl : o.length < 1000000) (j k : Nat) (u v : Int) (hv : l[j]? = some v) (hu : o[k]? = some u) (h : u < v) : Runs Try.prog 0 (loopN Try.prog 88 3) (St.as (D44 l o j k) 104) (.normal) (St.as (D44 l o j (k+1)) 104) := by
  refine round_wp (p := (D.bool (decide ((↑k : Int) < (↑(List.map iD o).length : Int))) = D.bool true) ∧ ((D.bool true = D.bool true) ∧ (((0 : Int) ≤ (↑k : Int)) ∧ (((List.map iD o)[(↑k : Int).toNat]? = some (D.int .i64 u)) ∧ (((0 : Int) ≤ (↑j : Int)) ∧ (((List.map iD l)[(↑j : Int).toNat]? = some (D.int .i64 v)) ∧ ((D.bool (decide (u < v)) = D.bool true) ∧ ((AV.d (.sl (List.map iD l)) = AV.d (.sl (List.map iD l))) ∧ ((AV.d (.sl (List.map iD o)) = AV.d (.sl (List.map iD o))) ∧ ((AV.d (.int .i64 (↑j : Int)) = AV.d (.int .i64 (↑j : Int))) ∧ ((AV.d (.int .i64 (IntKind.i64.wrap ((↑k : Int) + (1 : Int)))) = AV.d (.int .i64 (↑(k + 1) : Int))) ∧ (True)))))))))))) (h := {els := [(61, .el (iD u)), (65, .el (iD v))], H := [(15, [(3, .val (.bool true)), (13, .val (.bool true))])]}) (subs := []) (ws := []) (ρ := []) (by kernel_rfl) ?_
  have hk := get_lt hu
  have hi := inc_i64 (j := k) (by omega)
  simp only [hi, List.length_map]
  have hj := get_lt hv
  repeat' (with_reducible first | exact True.intro | apply And.intro | (first | apply zA | apply zB | apply zC | apply zD | apply zE | apply zF | apply zG) <;> intro)
  all_goals (try simp only [List.length_map, AV.d.injEq, D.int.injEq, D.bool.injEq, D.str.injEq, D.sl.injEq, true_and, and_true, decide_eq_true_eq, decide_eq_false_iff_not, decide_eq_decide])
  all_goals (try simp only [List.length_map] at *)
  all_goals first | exact el_map hu rfl | exact el_map hv rfl | rfl | omega | exact dyes (by omega) | exact dno (by omega) | skip

set_option maxRecDepth 100000 in
set_option maxHeartbeats 1000000 in
theorem qd44a (l o : List Int) (j k : Nat) (v : Int) (hv : l[j]? = some v) (hu : True) (hk : o.length ≤ k) : Runs Try.prog 0 (loopN Try.prog 88 3) (St.as (D44 l o j k) 104) (.exit 6) (St.as (D44 l o j k) 104) := by
  refine round_wp (p := (D.bool (decide ((↑k : Int) < (↑(List.map iD o).length : Int))) = D.bool false) ∧ ((D.bool false = D.bool false) ∧ ((AV.d (.sl (List.map iD l)) = AV.d (.sl (List.map iD l))) ∧ ((AV.d (.sl (List.map iD o)) = AV.d (.sl (List.map iD o))) ∧ ((AV.d (.int .i64 (↑j : Int)) = AV.d (.int .i64 (↑j : Int))) ∧ ((AV.d (.int .i64 (↑k : Int)) = AV.d (.int .i64 (↑k : Int))) ∧ (True))))))) (h := {H := [(15, [(3, .val (.bool false))])]}) (subs := []) (ws := []) (ρ := []) (by kernel_rfl) ?_
  simp only [List.length_map]
  have hj := get_lt hv
  repeat' (with_reducible first | exact True.intro | apply And.intro | (first | apply zA | apply zB | apply zC | apply zD | apply zE | apply zF | apply zG) <;> intro)
  all_goals (try simp only [List.length_map, AV.d.injEq, D.int.injEq, D.bool.injEq, D.str.injEq, D.sl.injEq, true_and, and_true, decide_eq_true_eq, decide_eq_false_iff_not, decide_eq_decide])
  all_goals (try simp only [List.length_map] at *)
  all_goals first | exact el_map hu rfl | exact el_map hv rfl | rfl | omega | exact dyes (by omega) | exact dno (by omega) | skip

set_option maxRecDepth 100000 in
set_option maxHeartbeats 1000000 in
theorem qd44b (l o : List Int) (j k : Nat) (u v : Int) (hv : l[j]? = some v) (hu : o[k]? = some u) (h : ¬u < v) : Runs Try.prog 0 (loopN Try.prog 88 3) (St.as (D44 l o j k) 104) (.exit 6) (St.as (D44 l o j k) 104) := by
  refine round_wp (p := (D.bool (decide ((↑k : Int) < (↑(List.map iD o).length : Int))) = D.bool true) ∧ ((D.bool true = D.bool true) ∧ (((0 : Int) ≤ (↑k : Int)) ∧ (((List.map iD o)[(↑k : Int).toNat]? = some (D.int .i64 u)) ∧ (((0 : Int) ≤ (↑j : Int)) ∧ (((List.map iD l)[(↑j : Int).toNat]? = some (D.int .i64 v)) ∧ ((D.bool (decide (u < v)) = D.bool false) ∧ ((AV.d (.sl (List.map iD l)) = AV.d (.sl (List.map iD l))) ∧ ((AV.d (.sl (List.map iD o)) = AV.d (.sl (List.map iD o))) ∧ ((AV.d (.int .i64 (↑j : Int)) = AV.d (.int .i64 (↑j : Int))) ∧ ((AV.d (.int .i64 (↑k : Int)) = AV.d (.int .i64 (↑k : Int))) ∧ (True)))))))))))) (h := {els := [(61, .el (iD u)), (65, .el (iD v))], H := [(15, [(3, .val (.bool true)), (13, .val (.bool false))])]}) (subs := []) (ws := []) (ρ := []) (by kernel_rfl) ?_
  have hk := get_lt hu
  simp only [List.length_map]
  have hj := get_lt hv
  repeat' (with_reducible first | exact True.intro | apply And.intro | (first | apply zA | apply zB | apply zC | apply zD | apply zE | apply zF | apply zG) <;> intro)
  all_goals (try simp only [List.length_map, AV.d.injEq, D.int.injEq, D.bool.injEq, D.str.injEq, D.sl.injEq, true_and, and_true, decide_eq_true_eq, decide_eq_false_iff_not, decide_eq_decide])
  all_goals (try simp only [List.length_map] at *)
  all_goals first | exact el_map hu rfl | exact el_map hv rfl | rfl | omega | exact dyes (by omega) | exact dno (by omega) | skip

set_option maxRecDepth 100000 in
set_option maxHeartbeats 1000000 in
theorem rc44a (l o : List Int) (hl : l.length < 1000000) (hl' : o.length < 1000000) (j k : Nat) (v : Int) (hv : l[j]? = some v) (hu : o[k]? = some v) (hD : Loops Try.prog 0 (loopN Try.prog 88 3) ((D44 l o j 0).as 104) (.exit 6) ((D44 l o j k).as 104)) : Runs Try.prog 0 (loopN Try.prog 88 2) (St.as (C44 l o j) 104) (.normal) (St.as (C44 l o (j+1)) 104) := by
  refine round_wp (p := condP (decide ((↑j : Int) < (↑(List.map iD l).length : Int))) ((AV.d (.sl (List.map iD l)) = AV.d (.sl (List.map iD l))) ∧ ((AV.d (.sl (List.map iD o)) = AV.d (.sl (List.map iD o))) ∧ ((AV.d (.int .i64 (↑j : Int)) = AV.d (.int .i64 (↑j : Int))) ∧ ((AV.d (.int .i64 (0 : Int)) = AV.d (.int .i64 (0 : Int))) ∧ ((LoopsS Try.prog 0 (loopN Try.prog 88 3) (D44 l o j 0) (Exit.exit 6) (D44 l o j k) 104) ∧ ((D.bool (decide ((↑k : Int) < (↑(List.map iD o).length : Int))) = D.bool true) ∧ ((D.bool true = D.bool true) ∧ (((0 : Int) ≤ (↑k : Int)) ∧ (((List.map iD o)[(↑k : Int).toNat]? = some (D.int .i64 v)) ∧ (((0 : Int) ≤ (↑j : Int)) ∧ (((List.map iD l)[(↑j : Int).toNat]? = some (D.int .i64 v)) ∧ ((D.bool (v == v) = D.bool true) ∧ ((AV.d (.sl (List.map iD l)) = AV.d (.sl (List.map iD l))) ∧ ((AV.d (.sl (List.map iD o)) = AV.d (.sl (List.map iD o))) ∧ ((AV.d (.int .i64 (IntKind.i64.wrap ((↑j : Int) + (1 : Int)))) = AV.d (.int .i64 (↑(j + 1) : Int))) ∧ (True)))))))))))))))) (False)) (h := {els := [(78, .el (iD v)), (82, .el (iD v))], H := [(17, [(3, .val (.bool true)), (13, .val (.bool true))])]}) (subs := [⟨[], [], D44 l o j 0, .exit 6, D44 l o j k⟩]) (ws := []) (ρ := []) (by kernel_rfl) ?_
  have hk := get_lt hu
  have e8 : (o.map iD).take o.length = o.map iD := by rw [List.take_of_length_le (by simp)]
  have kk : k ≤ o.length := by omega
  have hj := get_lt hv
  have hi := inc_i64 (j := j) (by omega)
  simp only [hi, List.length_map]
  refine condP_t (by rw [decide_eq_true_eq]; omega) ?_
  repeat' (with_reducible first | exact True.intro | apply And.intro | (first | apply zA | apply zB | apply zC | apply zD | apply zE | apply zF | apply zG) <;> intro)
  all_goals (try simp only [Int.toNat_natCast, List.drop_zero, List.nil_append, e8])
  all_goals first | exact hD | exact el_map hu rfl | exact el_map hv rfl | rfl | omega | exact dyes (by omega) | exact dno (by omega) | exact congrArg (fun z => AV.d (.sl z)) e6 | exact iD_cells (o := o) (fun e he => List.mem_of_mem_take he) | exact iD_cells (o := o) (fun e he => List.mem_of_mem_drop he) | (simp only [List.length_append, List.length_take, List.length_drop, List.length_map, List.length_cons, List.length_nil]; omega) | (simp [iD]; done) | (simp [chunk, D.cells]; done) | skip

set_option maxRecDepth 100000 in
set_option maxHeartbeats 1000000 in
theorem rc44b (l o : List Int) (hl : l.length < 1000000) (hl' : o.length < 1000000) (j k : Nat) (u v : Int) (hv : l[j]? = some v) (hu : o[k]? = some u) (h : u ≠ v) (o' : List Int) (ho : o.take k ++ [v] ++ o.drop k = o') (hD : Loops Try.prog 0 (loopN Try.prog 88 3) ((D44 l o j 0).as 104) (.exit 6) ((D44 l o j k).as 104)) : Runs Try.prog 0 (loopN Try.prog 88 2) (St.as (C44 l o j) 104) (.normal) (St.as (C44 l o' (j+1)) 104) := by
  refine round_wp (p := condP (decide ((↑j : Int) < (↑(List.map iD l).length : Int))) ((AV.d (.sl (List.map iD l)) = AV.d (.sl (List.map iD l))) ∧ ((AV.d (.sl (List.map iD o)) = AV.d (.sl (List.map iD o))) ∧ ((AV.d (.int .i64 (↑j : Int)) = AV.d (.int .i64 (↑j : Int))) ∧ ((AV.d (.int .i64 (0 : Int)) = AV.d (.int .i64 (0 : Int))) ∧ ((LoopsS Try.prog 0 (loopN Try.prog 88 3) (D44 l o j 0) (Exit.exit 6) (D44 l o j k) 104) ∧ ((D.bool (decide ((↑k : Int) < (↑(List.map iD o).length : Int))) = D.bool true) ∧ ((D.bool true = D.bool true) ∧ (((0 : Int) ≤ (↑k : Int)) ∧ (((List.map iD o)[(↑k : Int).toNat]? = some (D.int .i64 u)) ∧ (((0 : Int) ≤ (↑j : Int)) ∧ (((List.map iD l)[(↑j : Int).toNat]? = some (D.int .i64 v)) ∧ ((D.bool (u == v) = D.bool false) ∧ (((0 : Int) ≤ (0 : Int) ∧ (0 : Int) ≤ (↑k : Int) ∧ (↑k : Int) ≤ (↑(List.map iD o).length : Int)) ∧ ((∀ (e : D), e ∈ List.map iD o → e.cells.length = 1) ∧ (((0 + (List.drop 0 (List.take (↑k : Int).toNat (List.map iD o))).length) * 8 ≤ 140737488355328) ∧ ((∀ (e : D), e ∈ List.drop 0 (List.take (↑k : Int).toNat (List.map iD o)) → e.cells.length = 1) ∧ (((0 : Int) ≤ (↑j : Int)) ∧ (((List.map iD l)[(↑j : Int).toNat]? = some (D.int .i64 v)) ∧ (((([] ++ List.drop 0 (List.take (↑k : Int).toNat (List.map iD o))).length + [D.int .i64 v].length) * 8 ≤ 140737488355328) ∧ ((∀ (e : D), e ∈ [D.int .i64 v] → e.cells.length = 1) ∧ (((0 : Int) ≤ (↑k : Int) ∧ (↑k : Int) ≤ (↑(List.map iD o).length : Int) ∧ (↑(List.map iD o).length : Int) ≤ (↑(List.map iD o).length : Int)) ∧ ((∀ (e : D), e ∈ List.map iD o → e.cells.length = 1) ∧ (((([] ++ List.drop 0 (List.take (↑k : Int).toNat (List.map iD o)) ++ [D.int .i64 v]).length + (List.drop (↑k : Int).toNat (List.take (↑(List.map iD o).length : Int).toNat (List.map iD o))).length) * 8 ≤ 140737488355328) ∧ ((∀ (e : D), e ∈ List.drop (↑k : Int).toNat (List.take (↑(List.map iD o).length : Int).toNat (List.map iD o)) → e.cells.length = 1) ∧ ((AV.d (.sl (List.map iD l)) = AV.d (.sl (List.map iD l))) ∧ ((AV.d (.sl ([] ++ List.drop 0 (List.take (↑k : Int).toNat (List.map iD o)) ++ [D.int .i64 v] ++ List.drop (↑k : Int).toNat (List.take (↑(List.map iD o).length : Int).toNat (List.map iD o)))) = AV.d (.sl (List.map iD o'))) ∧ ((AV.d (.int .i64 (IntKind.i64.wrap ((↑j : Int) + (1 : Int)))) = AV.d (.int .i64 (↑(j + 1) : Int))) ∧ (True)))))))))))))))))))))))))))) (False)) (h := {els := [(78, .el (iD u)), (82, .el (iD v)), (93, .el (iD v))], H := [(17, [(3, .val (.bool true)), (13, .val (.bool false))])]}) (subs := [⟨[], [], D44 l o j 0, .exit 6, D44 l o j k⟩]) (ws := []) (ρ := []) (by kernel_rfl) ?_
  have hk := get_lt hu
  have e6 : (o.map iD).take k ++ [iD v] ++ (o.map iD).drop k = o'.map iD := by rw [← ho]; simp
  have e8 : (o.map iD).take o.length = o.map iD := by rw [List.take_of_length_le (by simp)]
  have kk : k ≤ o.length := by omega
  have hj := get_lt hv
  have hi := inc_i64 (j := j) (by omega)
  simp only [hi, List.length_map]
  refine condP_t (by rw [decide_eq_true_eq]; omega) ?_
  repeat' (with_reducible first | exact True.intro | apply And.intro | (first | apply zA | apply zB | apply zC | apply zD | apply zE | apply zF | apply zG) <;> intro)
  all_goals (try simp only [Int.toNat_natCast, List.drop_zero, List.nil_append, e8])
  all_goals first | exact hD | exact el_map hu rfl | exact el_map hv rfl | rfl | omega | exact dyes (by omega) | exact dno (by omega) | exact congrArg (fun z => AV.d (.sl z)) e6 | exact iD_cells (o := o) (fun e he => List.mem_of_mem_take he) | exact iD_cells (o := o) (fun e he => List.mem_of_mem_drop he) | (simp only [List.length_append, List.length_take, List.length_drop, List.length_map, List.length_cons, List.length_nil]; omega) | (simp [iD]; done) | (simp [chunk, D.cells]; done) | skip

set_option maxRecDepth 100000 in
set_option maxHeartbeats 1000000 in
theorem rc44c (l o : List Int) (hl : l.length < 1000000) (hl' : o.length < 1000000) (j k : Nat) (v : Int) (hv : l[j]? = some v) (hu : True) (hk : o.length = k) (o' : List Int) (ho : o.take k ++ [v] ++ o.drop k = o') (hD : Loops Try.prog 0 (loopN Try.prog 88 3) ((D44 l o j 0).as 104) (.exit 6) ((D44 l o j k).as 104)) : Runs Try.prog 0 (loopN Try.prog 88 2) (St.as (C44 l o j) 104) (.normal) (St.as (C44 l o' (j+1)) 104) := by
  refine round_wp (p := condP (decide ((↑j : Int) < (↑(List.map iD l).length : Int))) ((AV.d (.sl (List.map iD l)) = AV.d (.sl (List.map iD l))) ∧ ((AV.d (.sl (List.map iD o)) = AV.d (.sl (List.map iD o))) ∧ ((AV.d (.int .i64 (↑j : Int)) = AV.d (.int .i64 (↑j : Int))) ∧ ((AV.d (.int .i64 (0 : Int)) = AV.d (.int .i64 (0 : Int))) ∧ ((LoopsS Try.prog 0 (loopN Try.prog 88 3) (D44 l o j 0) (Exit.exit 6) (D44 l o j k) 104) ∧ ((D.bool (decide ((↑k : Int) < (↑(List.map iD o).length : Int))) = D.bool false) ∧ ((D.bool false = D.bool false) ∧ (((0 : Int) ≤ (0 : Int) ∧ (0 : Int) ≤ (↑k : Int) ∧ (↑k : Int) ≤ (↑(List.map iD o).length : Int)) ∧ ((∀ (e : D), e ∈ List.map iD o → e.cells.length = 1) ∧ (((0 + (List.drop 0 (List.take (↑k : Int).toNat (List.map iD o))).length) * 8 ≤ 140737488355328) ∧ ((∀ (e : D), e ∈ List.drop 0 (List.take (↑k : Int).toNat (List.map iD o)) → e.cells.length = 1) ∧ (((0 : Int) ≤ (↑j : Int)) ∧ (((List.map iD l)[(↑j : Int).toNat]? = some (D.int .i64 v)) ∧ (((([] ++ List.drop 0 (List.take (↑k : Int).toNat (List.map iD o))).length + [D.int .i64 v].length) * 8 ≤ 140737488355328) ∧ ((∀ (e : D), e ∈ [D.int .i64 v] → e.cells.length = 1) ∧ (((0 : Int) ≤ (↑k : Int) ∧ (↑k : Int) ≤ (↑(List.map iD o).length : Int) ∧ (↑(List.map iD o).length : Int) ≤ (↑(List.map iD o).length : Int)) ∧ ((∀ (e : D), e ∈ List.map iD o → e.cells.length = 1) ∧ (((([] ++ List.drop 0 (List.take (↑k : Int).toNat (List.map iD o)) ++ [D.int .i64 v]).length + (List.drop (↑k : Int).toNat (List.take (↑(List.map iD o).length : Int).toNat (List.map iD o))).length) * 8 ≤ 140737488355328) ∧ ((∀ (e : D), e ∈ List.drop (↑k : Int).toNat (List.take (↑(List.map iD o).length : Int).toNat (List.map iD o)) → e.cells.length = 1) ∧ ((AV.d (.sl (List.map iD l)) = AV.d (.sl (List.map iD l))) ∧ ((AV.d (.sl ([] ++ List.drop 0 (List.take (↑k : Int).toNat (List.map iD o)) ++ [D.int .i64 v] ++ List.drop (↑k : Int).toNat (List.take (↑(List.map iD o).length : Int).toNat (List.map iD o)))) = AV.d (.sl (List.map iD o'))) ∧ ((AV.d (.int .i64 (IntKind.i64.wrap ((↑j : Int) + (1 : Int)))) = AV.d (.int .i64 (↑(j + 1) : Int))) ∧ (True))))))))))))))))))))))) (False)) (h := {els := [(93, .el (iD v))], H := [(17, [(3, .val (.bool false))])]}) (subs := [⟨[], [], D44 l o j 0, .exit 6, D44 l o j k⟩]) (ws := []) (ρ := []) (by kernel_rfl) ?_
  have e6 : (o.map iD).take k ++ [iD v] ++ (o.map iD).drop k = o'.map iD := by rw [← ho]; simp
  have e8 : (o.map iD).take o.length = o.map iD := by rw [List.take_of_length_le (by simp)]
  have kk : k ≤ o.length := by omega
  have hj := get_lt hv
  have hi := inc_i64 (j := j) (by omega)
  simp only [hi, List.length_map]
  refine condP_t (by rw [decide_eq_true_eq]; omega) ?_
  repeat' (with_reducible first | exact True.intro | apply And.intro | (first | apply zA | apply zB | apply zC | apply zD | apply zE | apply zF | apply zG) <;> intro)
  all_goals (try simp only [Int.toNat_natCast, List.drop_zero, List.nil_append, e8])
  all_goals first | exact hD | exact el_map hu rfl | exact el_map hv rfl | rfl | omega | exact dyes (by omega) | exact dno (by omega) | exact congrArg (fun z => AV.d (.sl z)) e6 | exact iD_cells (o := o) (fun e he => List.mem_of_mem_take he) | exact iD_cells (o := o) (fun e he => List.mem_of_mem_drop he) | (simp only [List.length_append, List.length_take, List.length_drop, List.length_map, List.length_cons, List.length_nil]; omega) | (simp [iD]; done) | (simp [chunk, D.cells]; done) | skip

set_option maxRecDepth 100000 in
set_option maxHeartbeats 1000000 in
theorem qc44 (l o : List Int) : Runs Try.prog 0 (loopN Try.prog 88 2) (St.as (C44 l o l.length) 104) (.exit 4) (St.as (C44 l o l.length) 104) := by
  refine round_wp (p := condP (decide ((↑l.length : Int) < (↑(List.map iD l).length : Int))) (False) ((AV.d (.sl (List.map iD l)) = AV.d (.sl (List.map iD l))) ∧ ((AV.d (.sl (List.map iD o)) = AV.d (.sl (List.map iD o))) ∧ ((AV.d (.int .i64 (↑l.length : Int)) = AV.d (.int .i64 (↑l.length : Int))) ∧ (True))))) (h := {}) (subs := []) (ws := []) (ρ := []) (by kernel_rfl) ?_
  repeat' (with_reducible first | exact True.intro | apply And.intro | (first | apply zA | apply zB | apply zC | apply zD | apply zE | apply zF | apply zG) <;> intro)
  all_goals (try simp only [List.length_map, AV.d.injEq, D.int.injEq, D.bool.injEq, D.str.injEq, D.sl.injEq, true_and, and_true, decide_eq_true_eq, decide_eq_false_iff_not, decide_eq_decide])
  all_goals (try simp only [List.length_map] at *)
  all_goals first | rfl | omega

set_option maxRecDepth 100000 in
set_option maxHeartbeats 1000000 in
theorem ends44' (a b : List Iv) (la lb : List Int) (o : List Int) (hA : Loops Try.prog 0 (loopN Try.prog 88 0) ((A44 a b [] 0).as 104) (.exit 0) ((A44 a b la a.length).as 104)) (hB : Loops Try.prog 0 (loopN Try.prog 88 1) ((B44 b la 0).as 104) (.exit 2) ((B44 b lb b.length).as 104)) (hC : Loops Try.prog 0 (loopN Try.prog 88 2) ((C44 lb [] 0).as 104) (.exit 4) ((C44 lb o lb.length).as 104)) : FnOK Try.prog 88 ([.d (.sl (a.map ivD)), .d (.sl (b.map ivD))]) ([]) (.d (.sl (o.map iD))) ([]) := by
  refine fnOK_wp (p := (AV.d (.sl (List.map ivD a)) = AV.d (.sl (List.map ivD a))) ∧ ((AV.d (.sl (List.map ivD b)) = AV.d (.sl (List.map ivD b))) ∧ ((AV.own 900 1 = AV.own 900 1) ∧ ((AV.d (.int .i64 (0 : Int)) = AV.d (.int .i64 (0 : Int))) ∧ ((Ob.row 1 [] = Ob.row 1 []) ∧ ((LoopsS Try.prog 0 (loopN Try.prog 88 0) (A44 a b [] 0) (Exit.exit 0) (A44 a b la a.length) 104) ∧ ((AV.d (.sl (List.map ivD b)) = AV.d (.sl (List.map ivD b))) ∧ ((AV.own 0 1 = AV.own 0 1) ∧ ((AV.d (.int .i64 (0 : Int)) = AV.d (.int .i64 (0 : Int))) ∧ ((Ob.row 1 (List.map iD la) = Ob.row 1 (List.map iD la)) ∧ ((LoopsS Try.prog 0 (loopN Try.prog 88 1) (B44 b la 0) (Exit.exit 2) (B44 b lb b.length) 104) ∧ ((AV.d (.sl (List.map iD lb)) = AV.d (.sl (List.map iD lb))) ∧ ((AV.d (.sl []) = AV.d (.sl [])) ∧ ((AV.d (.int .i64 (0 : Int)) = AV.d (.int .i64 (0 : Int))) ∧ ((LoopsS Try.prog 0 (loopN Try.prog 88 2) (C44 lb [] 0) (Exit.exit 4) (C44 lb o lb.length) 104) ∧ ((AV.d (.sl (List.map iD o)) = AV.d (.sl (List.map iD o))) ∧ (True))))))))))))))))) (h := {}) (subs := [⟨[], [], A44 a b [] 0, .exit 0, A44 a b la a.length⟩, ⟨[], [], B44 b la 0, .exit 2, B44 b lb b.length⟩, ⟨[], [], C44 lb [] 0, .exit 4, C44 lb o lb.length⟩]) (ws := []) (ρ := []) (by kernel_rfl) ?_
  repeat' (with_reducible first | exact True.intro | apply And.intro | (first | apply zA | apply zB | apply zC | apply zD | apply zE | apply zF | apply zG) <;> intro)
  all_goals first | exact hA | exact hB | exact hC | rfl | skip

theorem ends44 (a b : List Iv) (ha : a.length < 100000) (hb : b.length < 100000) : FnOK Try.prog 88 [.d (.sl (a.map ivD)), .d (.sl (b.map ivD))] [] (.d (.sl ((rEnds a b).map iD))) [] := by
  refine ends44' a b (flat a) (flat a ++ flat b) (rEnds a b) ?_ ?_ ?_
  · have h := loops_n (P := Try.prog) (k := 0) (c := loopN Try.prog 88 0) (e := .exit 0) (I := fun j => (A44 a b (flat (a.take j)) j).as 104) (by simp) a.length 0 (by omega) (fun j _ hj => ?_) (by simp only [List.take_length]; exact qa44 a b _)
    · exact h
    · have hn := get_of hj
      show Runs _ _ _ _ _ ((A44 a b (flat (a.take (j + 1))) (j + 1)).as _)
      rw [take_snoc hn, flat_snoc]
      exact ra44 a b (by omega) _ (by rw [flat_len, List.length_take]; omega) j _ hn
  · have h := loops_n (P := Try.prog) (k := 0) (c := loopN Try.prog 88 1) (e := .exit 2) (I := fun j => (B44 b (flat a ++ flat (b.take j)) j).as 104) (by simp) b.length 0 (by omega) (fun j _ hj => ?_) (by simp only [List.take_length]; exact qb44 b _)
    · simpa [flat] using h
    · have hn := get_of hj
      show Runs _ _ _ _ _ ((B44 b (flat a ++ flat (b.take (j + 1))) (j + 1)).as _)
      rw [take_snoc hn, flat_snoc, ← List.append_assoc]
      exact rb44 b (by omega) _ (by rw [List.length_append, flat_len, flat_len, List.length_take]; omega) j _ hn
  · have hlen : (flat a ++ flat b).length < 400000 := by rw [List.length_append, flat_len, flat_len]; omega
    unfold rEnds
    generalize flat a ++ flat b = l at *
    have h := loops_n (P := Try.prog) (k := 0) (c := loopN Try.prog 88 2) (e := .exit 4) (I := fun j => (C44 l ((l.take j).foldl ins1 []) j).as 104) (by simp) l.length 0 (by omega) (fun j _ hj => ?_) (by simp only [List.take_length]; exact qc44 l _)
    · exact h
    · have hn := get_of hj
      have hl := insF_len (l.take j) []
      rw [List.length_take] at hl
      simp only [List.length_nil] at hl
      show Runs _ _ _ _ _ ((C44 l ((l.take (j + 1)).foldl ins1 []) (j + 1)).as _)
      rw [take_snoc hn, List.foldl_append]
      show Runs _ _ _ _ _ ((C44 l (ins1 _ l[j]) (j + 1)).as _)
      generalize (l.take j).foldl ins1 [] = o at *
      have hkl := kOf_le l[j] o
      have hD : Loops Try.prog 0 (loopN Try.prog 88 3) ((D44 l o j 0).as 104) (.exit 6) ((D44 l o j (kOf o l[j])).as 104) := by
        refine loops_n (P := Try.prog) (k := 0) (c := loopN Try.prog 88 3) (e := .exit 6) (I := fun k => (D44 l o j k).as 104) (by simp) (kOf o l[j]) 0 (by omega) (fun k _ hk => ?_) ?_
        · have hu := get_of (show k < o.length by omega)
          exact rd44 l o (by omega) j k _ _ hn hu (kOf_lt _ o k _ hk hu)
        · cases hu : o[kOf o l[j]]? with
          | none => exact qd44a l o j _ _ hn trivial (List.getElem?_eq_none_iff.1 hu)
          | some u => exact qd44b l o j _ u _ hn hu (kOf_at _ o u hu)
      cases hu : o[kOf o l[j]]? with
      | none =>
        have he : ins1 o l[j] = o.take (kOf o l[j]) ++ [l[j]] ++ o.drop (kOf o l[j]) := by unfold ins1; rw [if_neg (by rw [hu]; simp)]
        exact rc44c l o (by omega) (by omega) j _ _ hn trivial (by have := List.getElem?_eq_none_iff.1 hu; omega) _ he.symm hD
      | some u =>
        by_cases huv : u = l[j]
        · have he : ins1 o l[j] = o := by unfold ins1; rw [if_pos (by rw [hu, huv])]
          rw [he]
          exact rc44a l o (by omega) (by omega) j _ _ hn (by rw [hu, huv]) hD
        · have he : ins1 o l[j] = o.take (kOf o l[j]) ++ [l[j]] ++ o.drop (kOf o l[j]) := by unfold ins1; rw [if_neg (by rw [hu]; simpa using huv)]
          exact rc44b l o (by omega) (by omega) j _ u _ hn hu huv _ he.symm hD
end Go.Proofs.Ytfllhedkgeljaaa.C06
