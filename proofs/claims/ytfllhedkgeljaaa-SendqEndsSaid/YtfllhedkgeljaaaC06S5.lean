/-
laws 06: what is lacking, what two have in common; in plain words.
-/
import Derived.Test.YtfllhedkgeljaaaC06S4
set_option linter.unusedSimpArgs false
set_option linter.unusedVariables false
namespace Go.Proofs.Ytfllhedkgeljaaa.C06
open Sx Go.RowKit

/-! ### Cut, plain -/
theorem pcs_nil (x : Iv) : pcs x [] = [] := rfl
theorem pcs_cons (x y : Iv) (l : List Iv) : pcs x (y :: l) = pc1 x y ++ pcs x l := by simp [pcs]
theorem pc1_eq (x y : Iv) : pc1 x y = (if min y.2 x.1 ≤ y.1 then [] else [(y.1, min y.2 x.1)]) ++ (if y.2 ≤ max y.1 x.2 then [] else [(max y.1 x.2, y.2)]) := by
  unfold pc1
  by_cases h1 : min y.2 x.1 ≤ y.1 <;> by_cases h2 : y.2 ≤ max y.1 x.2 <;> simp [h1, h2]
theorem pcs_ok {x : Iv} (hx : x.1 < x.2) {M : Int} : ∀ {l : List Iv} {e : Int}, Srt e l → (∀ y ∈ l, y.2 ≤ M) → Srt e (pcs x l) ∧ (∀ y ∈ pcs x l, y.2 ≤ M) ∧ (∀ n, has (pcs x l) n = (has l n && !decide (x.1 ≤ n ∧ n < x.2))) ∧
    (pcs x l).length ≤ l.length + 1 ∧ (x.2 ≤ e + 1 → (pcs x l).length ≤ l.length)
  | [], e, _, _ => ⟨trivial, (fun y h => by cases h), (fun n => rfl), Nat.zero_le _, fun _ => Nat.zero_le _⟩
  | y :: l, e, h, hM => by
    obtain ⟨⟨h1, h2⟩, h3⟩ := h
    obtain ⟨i1, i2, i3, i4, i5⟩ := pcs_ok hx h3 (fun z hz => hM z (List.mem_cons_of_mem _ hz))
    have hy := hM y (by simp)
    rw [pcs_cons, pc1_eq]
    have hin : ∀ n, has ((if min y.2 x.1 ≤ y.1 then [] else [(y.1, min y.2 x.1)]) ++ (if y.2 ≤ max y.1 x.2 then [] else [(max y.1 x.2, y.2)]) ++ pcs x l) n = (has (y :: l) n && !decide (x.1 ≤ n ∧ n < x.2)) := fun n => by
      rw [has_append, has_append, i3, has_cons]
      have e1 : has (if min y.2 x.1 ≤ y.1 then [] else [(y.1, min y.2 x.1)]) n = decide (y.1 ≤ n ∧ n < min y.2 x.1) := by
        by_cases g : min y.2 x.1 ≤ y.1
        · rw [if_pos g]; symm; exact decide_eq_false (by omega)
        · rw [if_neg g]; simp [has]
      have e2 : has (if y.2 ≤ max y.1 x.2 then [] else [(max y.1 x.2, y.2)]) n = decide (max y.1 x.2 ≤ n ∧ n < y.2) := by
        by_cases g : y.2 ≤ max y.1 x.2
        · rw [if_pos g]; symm; exact decide_eq_false (by omega)
        · rw [if_neg g]; simp [has]
      rw [e1, e2]
      by_cases a1 : x.1 ≤ n ∧ n < x.2
      · rw [decide_eq_true a1, decide_eq_false (p := y.1 ≤ n ∧ n < min y.2 x.1) (by omega), decide_eq_false (p := max y.1 x.2 ≤ n ∧ n < y.2) (by omega)]
        simp
      · rw [decide_eq_false a1]
        by_cases a2 : y.1 ≤ n ∧ n < y.2
        · rw [decide_eq_true a2]
          by_cases a3 : n < x.1
          · rw [decide_eq_true (p := y.1 ≤ n ∧ n < min y.2 x.1) (by omega)]; simp
          · rw [decide_eq_true (p := max y.1 x.2 ≤ n ∧ n < y.2) (by omega)]; simp
        · rw [decide_eq_false a2, decide_eq_false (p := y.1 ≤ n ∧ n < min y.2 x.1) (by omega), decide_eq_false (p := max y.1 x.2 ≤ n ∧ n < y.2) (by omega)]
          simp
    by_cases g1 : min y.2 x.1 ≤ y.1 <;> by_cases g2 : y.2 ≤ max y.1 x.2
    · simp only [g1, g2, if_true, List.nil_append] at hin ⊢
      refine ⟨srt_up (by omega) i1, i2, hin, by rw [List.length_cons]; omega, fun g => ?_⟩
      have := i5 (by omega)
      rw [List.length_cons]; omega
    · simp only [g1, g2, if_true, if_false, List.nil_append, List.singleton_append] at hin ⊢
      refine ⟨⟨⟨by show e < max y.1 x.2; omega, by show max y.1 x.2 < y.2; omega⟩, i1⟩, fun z hz => ?_, hin, ?_, fun g => ?_⟩
      · rcases List.mem_cons.1 hz with rfl | hz
        · exact hy
        · exact i2 z hz
      · rw [List.length_cons, List.length_cons]; omega
      · have := i5 (by omega)
        rw [List.length_cons, List.length_cons]; omega
    · simp only [g1, g2, if_true, if_false, List.append_nil, List.singleton_append] at hin ⊢
      refine ⟨⟨⟨h1, by show y.1 < min y.2 x.1; omega⟩, srt_up (by show min y.2 x.1 ≤ y.2; omega) i1⟩, fun z hz => ?_, hin, ?_, fun g => ?_⟩
      · rcases List.mem_cons.1 hz with rfl | hz
        · show min y.2 x.1 ≤ M; omega
        · exact i2 z hz
      · rw [List.length_cons, List.length_cons]; omega
      · have : (pcs x l).length ≤ l.length := i5 (by omega)
        rw [List.length_cons, List.length_cons]; omega
    · simp only [g1, g2, if_false, List.cons_append, List.nil_append] at hin ⊢
      have i6 := i5 (by omega)
      refine ⟨⟨⟨h1, by show y.1 < min y.2 x.1; omega⟩, ⟨by show min y.2 x.1 < max y.1 x.2; omega, by show max y.1 x.2 < y.2; omega⟩, i1⟩, fun z hz => ?_, hin, ?_, fun g => ?_⟩
      · rcases List.mem_cons.1 hz with rfl | hz
        · show min y.2 x.1 ≤ M; omega
        · rcases List.mem_cons.1 hz with rfl | hz
          · exact hy
          · exact i2 z hz
      · simp only [List.length_cons]; omega
      · omega
theorem cut_ok {s : List Iv} (h : Ok s) {x : Iv} (hm : mayB x = true) (hn : noneB x = false) : Ok (rCut s x) ∧ (∀ n, has (rCut s x) n = (has s n && !decide (x.1 ≤ n ∧ n < x.2))) ∧ (rCut s x).length ≤ s.length + 1 := by
  have h2 := of_decide_eq_false hn
  obtain ⟨i1, i2, i3, i4, -⟩ := pcs_ok (x := x) (by omega) h.srt h.up
  have e : rCut s x = pcs x s := by
    unfold rCut nop
    rw [hm, hn, iChk_iff.2 h]
    rfl
  rw [e]
  exact ⟨⟨i1, i2⟩, i3, i4⟩
theorem ok_may {s : List Iv} (h : Ok s) {x : Iv} (hx : x ∈ s) : mayB x = true ∧ noneB x = false := by
  have h1 := srt_mem h.srt x hx
  have h2 := h.up x hx
  exact ⟨mayB_iff.2 ⟨⟨by omega, by omega⟩, by omega, h2⟩, decide_eq_false (by omega)⟩
/-! ### Gaps -/
def I15 (s : List Iv) (o : List Iv) (j : Nat) : St := ⟨[(5, .d (.sl (o.map ivD))), (22, .d (.sl (s.map ivD))), (23, .d (.int .i64 s.length)), (24, .d (.int .i64 j))], []⟩
set_option maxRecDepth 100000 in
set_option maxHeartbeats 1000000 in
theorem r15 (s : List Iv) (hl : s.length < 1000000) (o o' : List Iv) (j : Nat) (y : Iv) (hn : s[j]? = some y) (k1 : FnOK Try.prog 49 [.d (.sl (o.map ivD)), .d (ivD y)] [] (.d (.sl (o'.map ivD))) []) : Runs Try.prog 0 (loopN Try.prog 73 0) (St.as (I15 s o j) 33) (.normal) (St.as (I15 s o' (j+1)) 33) := by
  refine round_wp (p := condP (decide ((↑j : Int) < (↑s.length : Int))) (((0 : Int) ≤ (↑j : Int)) ∧ (((List.map ivD s)[(↑j : Int).toNat]? = some (D.agg [D.int .i64 y.fst, D.int .i64 y.snd])) ∧ ((FnOK Try.prog 49 [AV.d (.sl (List.map ivD o)), AV.d (.agg [D.int .i64 y.fst, D.int .i64 y.snd])] [] (AV.d (.sl (List.map ivD o'))) []) ∧ ((AV.d (.sl (List.map ivD o')) = AV.d (.sl (List.map ivD o'))) ∧ ((AV.d (.sl (List.map ivD s)) = AV.d (.sl (List.map ivD s))) ∧ ((AV.d (.int .i64 (↑s.length : Int)) = AV.d (.int .i64 (↑s.length : Int))) ∧ ((AV.d (.int .i64 (IntKind.i64.wrap ((↑j : Int) + (1 : Int)))) = AV.d (.int .i64 (↑(j + 1) : Int))) ∧ (True)))))))) (False)) (h := {els := [(22, .el (ivD y))], G := [(49, gAns (.d (.sl (o'.map ivD))))]}) (subs := []) (ws := []) (ρ := []) (by kernel_rfl) ?_
  have hj := get_lt hn
  have hi := inc_i64 (j := j) (by omega)
  simp only [hi]
  refine condP_t (by rw [decide_eq_true_eq]; omega) ?_
  repeat' (with_reducible first | exact True.intro | apply And.intro | (first | apply zA | apply zB | apply zC | apply zD | apply zE | apply zF | apply zG) <;> intro)
  all_goals first | exact k1 | exact el_map hn rfl | rfl | omega | skip

set_option maxRecDepth 100000 in
set_option maxHeartbeats 1000000 in
theorem q15 (s o : List Iv) : Runs Try.prog 0 (loopN Try.prog 73 0) (St.as (I15 s o s.length) 33) (.exit 0) (St.as (I15 s o s.length) 33) := by
  refine round_wp (p := condP (decide ((↑s.length : Int) < (↑s.length : Int))) (False) ((AV.d (.sl (List.map ivD o)) = AV.d (.sl (List.map ivD o))) ∧ ((AV.d (.sl (List.map ivD s)) = AV.d (.sl (List.map ivD s))) ∧ ((AV.d (.int .i64 (↑s.length : Int)) = AV.d (.int .i64 (↑s.length : Int))) ∧ ((AV.d (.int .i64 (↑s.length : Int)) = AV.d (.int .i64 (↑s.length : Int))) ∧ (True)))))) (h := {}) (subs := []) (ws := []) (ρ := []) (by kernel_rfl) ?_
  repeat' (with_reducible first | exact True.intro | apply And.intro | (first | apply zA | apply zB | apply zC | apply zD | apply zE | apply zF | apply zG) <;> intro)
  all_goals first | rfl | omega

set_option maxRecDepth 100000 in
set_option maxHeartbeats 1000000 in
theorem gap15n (s : List Iv) (x : Iv) (hs : s.length < 400000) (hL : True) (h : nop s x = true) (k4 : True) (k5 : True) : FnOK Try.prog 73 ([.d (.sl (s.map ivD)), .d (ivD x)]) ([]) (.d (.sl [])) ([]) := by
  refine fnOK_wp (p := condP (!mayB x) ((FnOK Try.prog 65 [AV.d (.agg [D.int .i64 x.fst, D.int .i64 x.snd])] [] (AV.d (.bool (mayB x))) []) ∧ (((D.bool !mayB x) = D.bool true) ∧ ((D.bool true = D.bool true) ∧ ((D.bool true = D.bool true) ∧ ((AV.d (.sl []) = AV.d (.sl [])) ∧ (True)))))) (condP (iChk s != (0 : Int)) ((FnOK Try.prog 65 [AV.d (.agg [D.int .i64 x.fst, D.int .i64 x.snd])] [] (AV.d (.bool (mayB x))) []) ∧ (((D.bool !mayB x) = D.bool false) ∧ ((FnOK Try.prog 67 [AV.d (.sl (List.map ivD s))] [] (AV.d (.int .i64 (iChk s))) []) ∧ ((D.bool (iChk s != (0 : Int)) = D.bool true) ∧ ((D.bool true = D.bool true) ∧ ((AV.d (.sl []) = AV.d (.sl [])) ∧ (True))))))) ((FnOK Try.prog 65 [AV.d (.agg [D.int .i64 x.fst, D.int .i64 x.snd])] [] (AV.d (.bool (mayB x))) []) ∧ (((D.bool !mayB x) = D.bool false) ∧ ((FnOK Try.prog 67 [AV.d (.sl (List.map ivD s))] [] (AV.d (.int .i64 (iChk s))) []) ∧ ((D.bool (iChk s != (0 : Int)) = D.bool false) ∧ ((FnOK Try.prog 66 [AV.d (.agg [D.int .i64 x.fst, D.int .i64 x.snd])] [] (AV.d (.bool (noneB x))) []) ∧ ((D.bool (noneB x) = D.bool true) ∧ ((AV.d (.sl []) = AV.d (.sl [])) ∧ (True)))))))))) (h := {G := [(65, gAns (.d (.bool (mayB x)))), (66, gAns (.d (.bool (noneB x)))), (67, gAns (.d (.int .i64 (iChk s))))], H := [(1, [(11, .val (.bool true))])]}) (subs := []) (ws := []) (ρ := []) (by kernel_rfl) ?_
  unfold nop at h
  have k1 := may30 x
  have k2 := none31 x
  have k3 := chk19 s (by omega)
  repeat' (with_reducible first | exact True.intro | apply And.intro | (first | apply zA | apply zB | apply zC | apply zD | apply zE | apply zF | apply zG) <;> intro)
  all_goals first | exact k1 | exact k2 | exact k3 | exact k4 | exact k5 | exact hL | rfl | exact dyes ‹_› | exact dno ‹_› | (refine congrArg D.bool ?_; assumption) | (refine congrArg D.bool ?_; simp_all; done) | (exfalso; simp_all; done) | skip

set_option maxRecDepth 100000 in
set_option maxHeartbeats 1000000 in
theorem gap15y (s : List Iv) (hs : s.length < 400000) (x : Iv) (h1 : mayB x = true) (h2 : noneB x = false) (h3 : iChk s = 0) (k5 : True) (o : List Iv) (hL : Loops Try.prog 0 (loopN Try.prog 73 0) ((I15 s [x] 0).as 33) (.exit 0) ((I15 s o s.length).as 33)) : FnOK Try.prog 73 ([.d (.sl (s.map ivD)), .d (ivD x)]) ([]) (.d (.sl (o.map ivD))) ([]) := by
  refine fnOK_wp (p := (FnOK Try.prog 65 [AV.d (.agg [D.int .i64 x.fst, D.int .i64 x.snd])] [] (AV.d (.bool true)) []) ∧ ((D.bool false = D.bool false) ∧ ((FnOK Try.prog 67 [AV.d (.sl (List.map ivD s))] [] (AV.d (.int .i64 (0 : Int))) []) ∧ ((D.bool false = D.bool false) ∧ ((FnOK Try.prog 66 [AV.d (.agg [D.int .i64 x.fst, D.int .i64 x.snd])] [] (AV.d (.bool false)) []) ∧ ((AV.d (.sl [D.agg [D.int .i64 x.fst, D.int .i64 x.snd]]) = AV.d (.sl [D.agg [D.int .i64 x.fst, D.int .i64 x.snd]])) ∧ ((AV.d (.sl (List.map ivD s)) = AV.d (.sl (List.map ivD s))) ∧ ((AV.d (.int .i64 (↑(List.map ivD s).length : Int)) = AV.d (.int .i64 (↑s.length : Int))) ∧ ((AV.d (.int .i64 (0 : Int)) = AV.d (.int .i64 (0 : Int))) ∧ ((LoopsS Try.prog 0 (loopN Try.prog 73 0) (I15 s [x] 0) (Exit.exit 0) (I15 s o s.length) 33) ∧ ((AV.d (.sl (List.map ivD o)) = AV.d (.sl (List.map ivD o))) ∧ (True)))))))))))) (h := {G := [(65, gAns (.d (.bool true))), (66, gAns (.d (.bool false))), (67, gAns (.d (.int .i64 0)))]}) (subs := [⟨[], [], I15 s [x] 0, .exit 0, I15 s o s.length⟩]) (ws := []) (ρ := []) (by kernel_rfl) ?_
  have k1 := may30 x
  have k2 := none31 x
  have k3 := chk19 s (by omega)
  rw [h1] at k1
  rw [h2] at k2
  rw [h3] at k3
  simp only [List.length_map]
  repeat' (with_reducible first | exact True.intro | apply And.intro | (first | apply zA | apply zB | apply zC | apply zD | apply zE | apply zF | apply zG) <;> intro)
  all_goals first | exact k1 | exact k2 | exact k3 | exact hL | rfl | omega | (simp [chunk, ivD, D.cells]; done) | skip

def rGaps (s : List Iv) (x : Iv) : List Iv := if nop s x = true then [] else s.foldl rCut [x]
theorem one_ok {x : Iv} (hm : mayB x = true) (hn : noneB x = false) : Ok [x] := by
  have h1 := mayB_iff.1 hm
  have h2 := of_decide_eq_false hn
  exact ⟨⟨⟨by omega, by omega⟩, trivial⟩, fun y hy => by simp at hy; subst hy; exact h1.2.2⟩
theorem gaps_fold {s : List Iv} (h : ∀ y ∈ s, mayB y = true ∧ noneB y = false) : ∀ {o : List Iv}, Ok o → Ok (s.foldl rCut o) ∧ (∀ n, has (s.foldl rCut o) n = (has o n && !has s n)) ∧ (s.foldl rCut o).length ≤ o.length + s.length := by
  induction s with
  | nil => intro o ho; exact ⟨ho, fun n => by simp [has], by simp⟩
  | cons y s ih =>
    intro o ho
    have hy := h y (by simp)
    obtain ⟨c1, c2, c3⟩ := cut_ok ho hy.1 hy.2
    obtain ⟨i1, i2, i3⟩ := ih (fun z hz => h z (List.mem_cons_of_mem _ hz)) c1
    refine ⟨i1, fun n => ?_, ?_⟩
    · show has (s.foldl rCut (rCut o y)) n = _
      rw [i2, c2, has_cons]
      cases has o n <;> cases decide (y.1 ≤ n ∧ n < y.2) <;> cases has s n <;> rfl
    · show (s.foldl rCut (rCut o y)).length ≤ _
      rw [List.length_cons]; omega
theorem gaps15 (s : List Iv) (hs : s.length < 300000) (x : Iv) : FnOK Try.prog 73 [.d (.sl (s.map ivD)), .d (ivD x)] [] (.d (.sl ((rGaps s x).map ivD))) [] := by
  unfold rGaps
  cases hn : nop s x
  · rw [if_neg (by simp)]
    obtain ⟨h1, h2, h3⟩ := nop_no hn
    have ok := iChk_iff.1 h3
    refine gap15y s (by omega) x h1 h2 h3 trivial _ ?_
    have h := loops_n (P := Try.prog) (k := 0) (c := loopN Try.prog 73 0) (e := .exit 0) (I := fun j => (I15 s ((s.take j).foldl rCut [x]) j).as 33) (by simp) s.length 0 (by omega) (fun j _ hj => ?_) (by simp only [List.take_length]; exact q15 s (s.foldl rCut [x]))
    · exact h
    · have hn := get_of hj
      obtain ⟨g1, -, g3⟩ := gaps_fold (s := s.take j) (fun y hy => ok_may ok (List.mem_of_mem_take hy)) (one_ok h1 h2)
      rw [List.length_take] at g3
      simp only [List.length_cons, List.length_nil] at g3
      show Runs _ _ _ _ _ ((I15 s ((s.take (j + 1)).foldl rCut [x]) (j + 1)).as _)
      rw [take_snoc hn, List.foldl_append]
      exact r15 s (by omega) _ _ j _ hn (cut13 _ (by omega) _)
  · rw [if_pos rfl]; exact gap15n s x (by omega) trivial hn trivial trivial
end Go.Proofs.Ytfllhedkgeljaaa.C06
