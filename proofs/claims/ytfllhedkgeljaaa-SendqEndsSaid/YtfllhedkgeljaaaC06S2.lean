/-
laws 06: the program's put, and Add.
-/
import Derived.Test.YtfllhedkgeljaaaC06S1
set_option linter.unusedSimpArgs false
set_option linter.unusedVariables false
namespace Go.Proofs.Ytfllhedkgeljaaa.C06
open Sx Go.RowKit

/-- A row that stays where it was may be told as one that moved. -/
theorem fnOK_move {P : Program} {f : FuncId} {args : List AV} {sz : Nat} {l l' : List D} (h : FnOK P f args [.row sz l] (.own 0 sz) [.row sz l']) : FnOK P f args [.row sz l] (.own 1 sz) [.gone, .row sz l'] := by
  refine ⟨h.1, fun w X β vs hO hvs => (h.2 w X β vs hO hvs).mono fun e w' ⟨v, β', he, ha, ho, hs⟩ => ?_⟩
  have hn : ∀ n, n ≠ 0 → β' n = .gone := fun n hn => by
    have := ho.rel n
    have e : Oof [Ob.row sz l'] n = .none := by
      unfold Oof
      cases n with
      | zero => exact absurd rfl hn
      | succ n => rfl
    rw [e] at this
    generalize β' n = g at this
    cases this
    rfl
  obtain ⟨γ, hγ⟩ : ∃ γ : Nat → HE, γ = fun n => if n = 1 then β' 0 else .gone := ⟨_, rfl⟩
  have g1 : γ 1 = β' 0 := by rw [hγ]; rfl
  have g0 : ∀ n, n ≠ 1 → γ n = .gone := fun n hn => by rw [hγ]; simp [hn]
  have hT : ∀ b, Tset γ b → Tset β' b := fun b ⟨o, hb⟩ => by
    by_cases h1 : o = 1
    · subst h1; rw [g1] at hb; exact ⟨0, hb⟩
    · rw [g0 o h1] at hb; cases hb
  have hM : ∀ b, Mset X γ b → Mset X β' b ∨ w'.heap.size ≤ b := fun b hb => .inl (by
    rcases hb with hb | hb
    · exact .inl hb
    · exact .inr (hT b hb))
  have hC : ∀ o, Oof [Ob.row sz l'] o ≠ .none → Oof [Ob.gone, Ob.row sz l'] o ≠ .none ∧ (γ o = β' o ∨ γ o = .gone) := fun o hh => by
    by_cases h0 : o = 0
    · subst h0; exact ⟨by simp [Oof], .inr (g0 0 (by simp))⟩
    · exfalso
      apply hh
      unfold Oof
      cases o with
      | zero => exact absurd rfl h0
      | succ n => rfl
  refine ⟨v, γ, he, ?_, ⟨fun n => ?_, fun n m b h1 h2 => ?_, fun n b h1 => ?_, ho.xlt⟩, ⟨hs.evo, fun o hh => ?_, fun b hb => hs.new b (hT b hb)⟩⟩
  · cases ha with
    | own o sz v ho' h1' h' => exact .own 1 sz v (by simp [Oof]) h1' (fun sz' len g hg => h' sz' len g (by rw [← g1]; exact hg))
  · match n with
    | 0 =>
      show ObjRel _ _ _ _ .gone (γ 0)
      rw [g0 0 (by simp)]
      exact .gone
    | 1 =>
      show ObjRel _ _ _ _ (.row sz l') (γ 1)
      rw [g1]
      exact (ho.rel 0).mono (Evo.refl (fun _ => False) w') (fun _ hf => hf.elim) hM hC (fun _ _ => rfl)
    | n + 2 =>
      show ObjRel _ _ _ _ .none (γ (n + 2))
      rw [g0 _ (by omega)]
      exact .none
  · by_cases a : n = 1
    · by_cases b' : m = 1
      · omega
      · rw [g0 m b'] at h2; cases h2
    · rw [g0 n a] at h1; cases h1
  · by_cases a : n = 1
    · subst a; rw [g1] at h1; exact ho.priv 0 b h1
    · rw [g0 n a] at h1; cases h1
  · by_cases a : o = 0
    · subst a; exact ⟨by simp [Oof], .inr (g0 0 (by simp))⟩
    · exfalso
      apply hh
      unfold Oof
      cases o with
      | zero => exact absurd rfl a
      | succ n => rfl
def pPut (l : List Iv) (x : Iv) : List Iv :=
  if x.2 ≤ x.1 then l else match l.getLast? with | some z => if z.2 ≥ x.1 then l.dropLast ++ [(z.1, max z.2 x.2)] else l ++ [x] | none => [x]
theorem pPut_none {l : List Iv} {x : Iv} (h : x.2 ≤ x.1) : pPut l x = l := by unfold pPut; rw [if_pos h]
theorem pPut_nil {x : Iv} (h : ¬x.2 ≤ x.1) : pPut [] x = [x] := by unfold pPut; rw [if_neg h]; rfl
theorem pPut_t {l : List Iv} {z x : Iv} (h : ¬x.2 ≤ x.1) (g : z.2 ≥ x.1) : pPut (l ++ [z]) x = l ++ [(z.1, max z.2 x.2)] := by unfold pPut; rw [if_neg h, List.getLast?_append]; simp [g]
theorem pPut_n {l : List Iv} {z x : Iv} (h : ¬x.2 ≤ x.1) (g : ¬z.2 ≥ x.1) : pPut (l ++ [z]) x = l ++ [z] ++ [x] := by unfold pPut; rw [if_neg h, List.getLast?_append]; simp [g]
set_option maxRecDepth 100000 in
set_option maxHeartbeats 1000000 in
theorem put33a (l : List Iv) (x : Iv) (h : x.2 ≤ x.1) : FnOK Try.prog 69 ([.own 0 2, .d (ivD x)]) ([.row 2 (l.map ivD)]) (.own 0 2) ([.row 2 (l.map ivD)]) := by
  refine fnOK_wp (p := (FnOK Try.prog 66 [AV.d (.agg [D.int .i64 x.fst, D.int .i64 x.snd])] [] (AV.d (.bool true)) []) ∧ ((AV.own 0 2 = AV.own 0 2) ∧ ((Ob.row 2 (List.map ivD l) = Ob.row 2 (List.map ivD l)) ∧ (True)))) (h := {H := [(1, [(1, .call [] (.d (.bool true)) [])])]}) (subs := []) (ws := []) (ρ := []) (by kernel_rfl) ?_
  have k1 := none31 x
  rw [show noneB x = true from decide_eq_true h] at k1
  repeat' (with_reducible first | exact True.intro | apply And.intro | (first | apply zA | apply zB | apply zC | apply zD | apply zE | apply zF | apply zG) <;> intro)
  all_goals first | exact k1 | rfl | exact dyes h | skip

set_option maxRecDepth 100000 in
set_option maxHeartbeats 1000000 in
theorem put33b (x : Iv) (h : ¬x.2 ≤ x.1) : FnOK Try.prog 69 ([.own 0 2, .d (ivD x)]) ([.row 2 []]) (.own 1 2) ([.gone, .row 2 [ivD x]]) := by
  refine fnOK_wp (p := (FnOK Try.prog 66 [AV.d (.agg [D.int .i64 x.fst, D.int .i64 x.snd])] [] (AV.d (.bool false)) []) ∧ ((D.bool false = D.bool false) ∧ ((D.bool false = D.bool false) ∧ ((16 ≤ 140737488355328) ∧ ((∀ (e : D), e ∈ chunk 2 1 [D.int .i64 x.fst, D.int .i64 x.snd] → e.cells.length = 2) ∧ ((AV.own 1336 2 = AV.own 1336 2) ∧ ((Ob.gone = Ob.gone) ∧ ((Ob.row 2 [D.agg [D.int .i64 x.fst, D.int .i64 x.snd]] = Ob.row 2 [D.agg [D.int .i64 x.fst, D.int .i64 x.snd]]) ∧ (True))))))))) (h := {H := [(1, [(1, .call [] (.d (.bool false)) [])]), (4, [(1, .val (.bool false))])]}) (subs := []) (ws := []) (ρ := []) (by kernel_rfl) ?_
  have k1 := none31 x
  rw [show noneB x = false from decide_eq_false h] at k1
  repeat' (with_reducible first | exact True.intro | apply And.intro | (first | apply zA | apply zB | apply zC | apply zD | apply zE | apply zF | apply zG) <;> intro)
  all_goals first | exact k1 | rfl | exact dno h | (simp; done) | (simp; omega) | (simp [chunk, ivD, D.cells]; done) | skip

set_option maxRecDepth 100000 in
set_option maxHeartbeats 1000000 in
theorem put33c (l : List Iv) (hl : l.length < 1000000) (z x : Iv) (h : ¬x.2 ≤ x.1) (g : z.2 ≥ x.1) : FnOK Try.prog 69 ([.own 0 2, .d (ivD x)]) ([.row 2 ((l ++ [z]).map ivD)]) (.own 0 2) ([.row 2 ((l ++ [(z.1, max z.2 x.2)]).map ivD)]) := by
  refine fnOK_wp (p := (FnOK Try.prog 66 [AV.d (.agg [D.int .i64 x.fst, D.int .i64 x.snd])] [] (AV.d (.bool false)) []) ∧ ((D.bool (decide ((↑(List.map ivD (l ++ [z])).length : Int) > (0 : Int))) = D.bool true) ∧ ((D.bool true = D.bool true) ∧ (((0 : Int) ≤ IntKind.i64.wrap ((↑(List.map ivD (l ++ [z])).length : Int) - (1 : Int)) ∧ IntKind.i64.wrap ((↑(List.map ivD (l ++ [z])).length : Int) - (1 : Int)) < (↑(List.map ivD (l ++ [z])).length : Int)) ∧ (((IntKind.i64.wrap ((↑(List.map ivD (l ++ [z])).length : Int) - (1 : Int))).toNat < (List.map ivD (l ++ [z])).length) ∧ ((2 = 2) ∧ (((List.map ivD (l ++ [z]))[(IntKind.i64.wrap ((↑(List.map ivD (l ++ [z])).length : Int) - (1 : Int))).toNat]? = some (D.agg [D.int .i64 z.fst, D.int .i64 z.snd])) ∧ ((D.bool (decide (z.snd ≥ x.fst)) = D.bool true) ∧ (((0 : Int) ≤ IntKind.i64.wrap ((↑(List.map ivD (l ++ [z])).length : Int) - (1 : Int)) ∧ IntKind.i64.wrap ((↑(List.map ivD (l ++ [z])).length : Int) - (1 : Int)) < (↑(List.map ivD (l ++ [z])).length : Int)) ∧ (((IntKind.i64.wrap ((↑(List.map ivD (l ++ [z])).length : Int) - (1 : Int))).toNat < (List.map ivD (l ++ [z])).length) ∧ ((2 = 2) ∧ (((List.map ivD (l ++ [z]))[(IntKind.i64.wrap ((↑(List.map ivD (l ++ [z])).length : Int) - (1 : Int))).toNat]? = some (D.agg [D.int .i64 z.fst, D.int .i64 z.snd])) ∧ (((0 : Int) ≤ IntKind.i64.wrap ((↑(List.map ivD (l ++ [z])).length : Int) - (1 : Int)) ∧ IntKind.i64.wrap ((↑(List.map ivD (l ++ [z])).length : Int) - (1 : Int)) < (↑(List.map ivD (l ++ [z])).length : Int)) ∧ (((IntKind.i64.wrap ((↑(List.map ivD (l ++ [z])).length : Int) - (1 : Int))).toNat < (List.map ivD (l ++ [z])).length) ∧ ((2 = 2) ∧ (((List.map ivD (l ++ [z]))[(IntKind.i64.wrap ((↑(List.map ivD (l ++ [z])).length : Int) - (1 : Int))).toNat]? = some (D.agg [D.int .i64 z.fst, D.int .i64 z.snd])) ∧ ((AV.own 0 2 = AV.own 0 2) ∧ ((Ob.row 2 ((List.map ivD (l ++ [z])).set (IntKind.i64.wrap ((↑(List.map ivD (l ++ [z])).length : Int) - (1 : Int))).toNat (D.agg (List.take 1 [D.int .i64 z.fst, D.int .i64 z.snd] ++ [D.int .i64 (max z.snd x.snd)] ++ List.drop (1 + [D.int .i64 (max z.snd x.snd)].length) [D.int .i64 z.fst, D.int .i64 z.snd]))) = Ob.row 2 (List.map ivD (l ++ [(z.fst, max z.snd x.snd)]))) ∧ (True))))))))))))))))))) (h := {els := [(18, .el (ivD z)), (31, .el (ivD z)), (37, .el (ivD z))], H := [(1, [(1, .call [] (.d (.bool false)) [])]), (4, [(1, .val (.bool true)), (11, .val (.bool true))])]}) (subs := []) (ws := []) (ρ := []) (by kernel_rfl) ?_
  have k1 := none31 x
  rw [show noneB x = false from decide_eq_false h] at k1
  have e1 : ((l ++ [z]).map ivD).length = l.length + 1 := by simp
  have w1 : IntKind.i64.wrap (((l.length + 1 : Nat) : Int) - 1) = l.length := by rw [IntKind.wrap_i64]; omega
  have e2 : ((l ++ [z]).map ivD)[l.length]? = some (ivD z) := by simp
  have e2' : ((l ++ [z]).map ivD)[((l.length : Int)).toNat]? = some (ivD z) := e2
  have e3 : ((l ++ [z]).map ivD).set l.length (ivD (z.1, max z.2 x.2)) = (l ++ [(z.1, max z.2 x.2)]).map ivD := by simp
  simp only [e1, w1]
  repeat' (with_reducible first | exact True.intro | apply And.intro | (first | apply zA | apply zB | apply zC | apply zD | apply zE | apply zF | apply zG) <;> intro)
  all_goals first | exact k1 | exact e2' | exact e2 | exact e3 | exact congrArg (Ob.row 2) e3 | rfl | omega | exact dno h | exact dyes (by omega) | exact dno (by omega) | (simp; done) | (simp; omega) | (simp [chunk, ivD, D.cells]; done) | skip

set_option maxRecDepth 100000 in
set_option maxHeartbeats 1000000 in
theorem put33d (l : List Iv) (hl : l.length < 1000000) (z x : Iv) (h : ¬x.2 ≤ x.1) (g : ¬z.2 ≥ x.1) : FnOK Try.prog 69 ([.own 0 2, .d (ivD x)]) ([.row 2 ((l ++ [z]).map ivD)]) (.own 1 2) ([.gone, .row 2 ((l ++ [z] ++ [x]).map ivD)]) := by
  refine fnOK_wp (p := (FnOK Try.prog 66 [AV.d (.agg [D.int .i64 x.fst, D.int .i64 x.snd])] [] (AV.d (.bool false)) []) ∧ ((D.bool (decide ((↑(List.map ivD (l ++ [z])).length : Int) > (0 : Int))) = D.bool true) ∧ ((D.bool true = D.bool true) ∧ (((0 : Int) ≤ IntKind.i64.wrap ((↑(List.map ivD (l ++ [z])).length : Int) - (1 : Int)) ∧ IntKind.i64.wrap ((↑(List.map ivD (l ++ [z])).length : Int) - (1 : Int)) < (↑(List.map ivD (l ++ [z])).length : Int)) ∧ (((IntKind.i64.wrap ((↑(List.map ivD (l ++ [z])).length : Int) - (1 : Int))).toNat < (List.map ivD (l ++ [z])).length) ∧ ((2 = 2) ∧ (((List.map ivD (l ++ [z]))[(IntKind.i64.wrap ((↑(List.map ivD (l ++ [z])).length : Int) - (1 : Int))).toNat]? = some (D.agg [D.int .i64 z.fst, D.int .i64 z.snd])) ∧ ((D.bool (decide (z.snd ≥ x.fst)) = D.bool false) ∧ ((((List.map ivD (l ++ [z])).length + [D.agg (List.take 2 [D.int .i64 x.fst, D.int .i64 x.snd])].length) * 16 ≤ 140737488355328) ∧ ((∀ (e : D), e ∈ chunk 2 1 [D.int .i64 x.fst, D.int .i64 x.snd] → e.cells.length = 2) ∧ ((AV.own 1336 2 = AV.own 1336 2) ∧ ((Ob.gone = Ob.gone) ∧ ((Ob.row 2 (List.map ivD (l ++ [z]) ++ [D.agg (List.take 2 [D.int .i64 x.fst, D.int .i64 x.snd])]) = Ob.row 2 (List.map ivD (l ++ [z] ++ [x]))) ∧ (True)))))))))))))) (h := {els := [(18, .el (ivD z))], H := [(1, [(1, .call [] (.d (.bool false)) [])]), (4, [(1, .val (.bool true)), (11, .val (.bool false))])]}) (subs := []) (ws := []) (ρ := []) (by kernel_rfl) ?_
  have k1 := none31 x
  rw [show noneB x = false from decide_eq_false h] at k1
  have e1 : ((l ++ [z]).map ivD).length = l.length + 1 := by simp
  have w1 : IntKind.i64.wrap (((l.length + 1 : Nat) : Int) - 1) = l.length := by rw [IntKind.wrap_i64]; omega
  have e2 : ((l ++ [z]).map ivD)[l.length]? = some (ivD z) := by simp
  have e2' : ((l ++ [z]).map ivD)[((l.length : Int)).toNat]? = some (ivD z) := e2
  have e3 : ((l ++ [z]).map ivD).set l.length (ivD (z.1, max z.2 x.2)) = (l ++ [(z.1, max z.2 x.2)]).map ivD := by simp
  simp only [e1, w1]
  repeat' (with_reducible first | exact True.intro | apply And.intro | (first | apply zA | apply zB | apply zC | apply zD | apply zE | apply zF | apply zG) <;> intro)
  all_goals first | exact k1 | exact e2' | exact e2 | exact e3 | exact congrArg (Ob.row 2) e3 | rfl | omega | exact dno h | exact dyes (by omega) | exact dno (by omega) | (simp; done) | (simp; omega) | (simp [chunk, ivD, D.cells]; done) | skip

theorem put33 (l : List Iv) (hl : l.length < 1000000) (x : Iv) : FnOK Try.prog 69 [.own 0 2, .d (ivD x)] [.row 2 (l.map ivD)] (.own 1 2) [.gone, .row 2 ((pPut l x).map ivD)] := by
  by_cases h : x.2 ≤ x.1
  · rw [pPut_none h]; exact fnOK_move (put33a l x h)
  · rcases List.eq_nil_or_concat l with rfl | ⟨l, z, rfl⟩
    · rw [pPut_nil h]; exact put33b x h
    · rw [List.concat_eq_append] at *
      rw [List.length_append] at hl
      by_cases g : z.2 ≥ x.1
      · rw [pPut_t h g]; exact fnOK_move (put33c l (by omega) z x h g)
      · rw [pPut_n h g]; exact put33d l (by omega) z x h g
end Go.Proofs.Ytfllhedkgeljaaa.C06
