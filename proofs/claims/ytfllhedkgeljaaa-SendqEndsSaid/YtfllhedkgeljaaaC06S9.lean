/-
laws 06: the document's put, ends.
-/
import Derived.Test.YtfllhedkgeljaaaC06S8
set_option linter.unusedSimpArgs false
set_option linter.unusedVariables false
namespace Go.Proofs.Ytfllhedkgeljaaa.C06
open Sx Go.RowKit

/-- What the caller had lent may be forgotten. -/
theorem fnOK_drop {P : Program} {f : FuncId} {args : List AV} {sz : Nat} {l l1 l2 : List D} (h : FnOK P f args [.row sz l] (.own 1 sz) [.row sz l1, .row sz l2]) : FnOK P f args [.row sz l] (.own 1 sz) [.gone, .row sz l2] := by
  refine ⟨h.1, fun w X β vs hO hvs => (h.2 w X β vs hO hvs).mono fun e w' ⟨v, β', he, ha, ho, hs⟩ => ?_⟩
  obtain ⟨γ, hγ⟩ : ∃ γ : Nat → HE, γ = fun n => if n = 0 then .gone else β' n := ⟨_, rfl⟩
  have g0 : γ 0 = .gone := by rw [hγ]; rfl
  have g1 : ∀ n, n ≠ 0 → γ n = β' n := fun n hn => by rw [hγ]; simp [hn]
  have hT : ∀ b, Tset γ b → Tset β' b := fun b ⟨o, hb⟩ => by
    by_cases h1 : o = 0
    · subst h1; rw [g0] at hb; cases hb
    · rw [g1 o h1] at hb; exact ⟨o, hb⟩
  have hM : ∀ b, Mset X γ b → Mset X β' b ∨ w'.heap.size ≤ b := fun b hb => .inl (by
    rcases hb with hb | hb
    · exact .inl hb
    · exact .inr (hT b hb))
  have hC : ∀ o, Oof [Ob.row sz l1, Ob.row sz l2] o ≠ .none → Oof [Ob.gone, Ob.row sz l2] o ≠ .none ∧ (γ o = β' o ∨ γ o = .gone) := fun o hh => by
    by_cases h0 : o = 0
    · subst h0; exact ⟨by simp [Oof], .inr g0⟩
    · refine ⟨?_, .inl (g1 o h0)⟩
      cases o with
      | zero => exact absurd rfl h0
      | succ n => exact hh
  refine ⟨v, γ, he, ?_, ⟨fun n => ?_, fun n m b h1 h2 => ?_, fun n b h1 => ?_, ho.xlt⟩, ⟨hs.evo, fun o hh => ?_, fun b hb => hs.new b (hT b hb)⟩⟩
  · cases ha with
    | own o sz v ho' h1' h' => exact .own 1 sz v (by simp [Oof]) h1' (fun sz' len g hg => h' sz' len g (by rw [← g1 1 (by simp)]; exact hg))
  · cases n with
    | zero =>
      show ObjRel _ _ _ _ .gone (γ 0)
      rw [g0]
      exact .gone
    | succ n =>
      show ObjRel _ _ _ _ (Oof [Ob.row sz l1, Ob.row sz l2] (n + 1)) (γ (n + 1))
      rw [g1 _ (by omega)]
      exact (ho.rel (n + 1)).mono (Evo.refl (fun _ => False) w') (fun _ hf => hf.elim) hM hC (fun _ _ => rfl)
  · by_cases a : n = 0
    · subst a; rw [g0] at h1; cases h1
    · by_cases b' : m = 0
      · subst b'; rw [g0] at h2; cases h2
      · rw [g1 n a] at h1; rw [g1 m b'] at h2; exact ho.inj n m b h1 h2
  · by_cases a : n = 0
    · subst a; rw [g0] at h1; cases h1
    · rw [g1 n a] at h1; exact ho.priv n b h1
  · by_cases a : o = 0
    · subst a; exact ⟨by simp [Oof], .inr g0⟩
    · exfalso
      apply hh
      unfold Oof
      cases o with
      | zero => exact absurd rfl a
      | succ n => rfl
def dPut (l : List Iv) (x : Iv) : List Iv := match l.getLast? with | some z => if z.2 < x.1 then l ++ [x] else l.dropLast ++ [(z.1, x.2)] | none => [x]
theorem dPut_nil {x : Iv} : dPut [] x = [x] := rfl
theorem dPut_n {l : List Iv} {z x : Iv} (g : z.2 < x.1) : dPut (l ++ [z]) x = l ++ [z] ++ [x] := by unfold dPut; rw [List.getLast?_append]; simp [g]
theorem dPut_t {l : List Iv} {z x : Iv} (g : ¬z.2 < x.1) : dPut (l ++ [z]) x = l ++ [(z.1, x.2)] := by unfold dPut; rw [List.getLast?_append]; simp [g]
set_option maxRecDepth 100000 in
set_option maxHeartbeats 1000000 in
theorem put45a (x : Iv) : FnOK Try.prog 90 ([.own 0 2, .d (ivD x)]) ([.row 2 []]) (.own 1 2) ([.gone, .row 2 [ivD x]]) := by
  refine fnOK_wp (p := (D.bool true = D.bool true) ∧ ((D.bool true = D.bool true) ∧ ((16 ≤ 140737488355328) ∧ ((∀ (e : D), e ∈ chunk 2 1 [D.int .i64 x.fst, D.int .i64 x.snd] → e.cells.length = 2) ∧ ((AV.own 1200 2 = AV.own 1200 2) ∧ ((Ob.gone = Ob.gone) ∧ ((Ob.row 2 [D.agg [D.int .i64 x.fst, D.int .i64 x.snd]] = Ob.row 2 [D.agg [D.int .i64 x.fst, D.int .i64 x.snd]]) ∧ (True)))))))) (h := {H := [(2, [(1, .val (.bool true))])]}) (subs := []) (ws := []) (ρ := []) (by kernel_rfl) ?_
  repeat' (with_reducible first | exact True.intro | apply And.intro | (first | apply zA | apply zB | apply zC | apply zD | apply zE | apply zF | apply zG) <;> intro)
  all_goals first | rfl | (simp; done) | (simp [chunk, ivD, D.cells]; done) | skip

set_option maxRecDepth 100000 in
set_option maxHeartbeats 1000000 in
theorem put45b (l : List Iv) (hl : l.length < 1000000) (z x : Iv) (g : z.2 < x.1) : FnOK Try.prog 90 ([.own 0 2, .d (ivD x)]) ([.row 2 ((l ++ [z]).map ivD)]) (.own 1 2) ([.gone, .row 2 ((l ++ [z] ++ [x]).map ivD)]) := by
  refine fnOK_wp (p := (D.bool ((↑(List.map ivD (l ++ [z])).length : Int) == (0 : Int)) = D.bool false) ∧ ((D.bool false = D.bool false) ∧ (((0 : Int) ≤ IntKind.i64.wrap ((↑(List.map ivD (l ++ [z])).length : Int) - (1 : Int)) ∧ IntKind.i64.wrap ((↑(List.map ivD (l ++ [z])).length : Int) - (1 : Int)) < (↑(List.map ivD (l ++ [z])).length : Int)) ∧ (((IntKind.i64.wrap ((↑(List.map ivD (l ++ [z])).length : Int) - (1 : Int))).toNat < (List.map ivD (l ++ [z])).length) ∧ ((2 = 2) ∧ (((List.map ivD (l ++ [z]))[(IntKind.i64.wrap ((↑(List.map ivD (l ++ [z])).length : Int) - (1 : Int))).toNat]? = some (D.agg [D.int .i64 z.fst, D.int .i64 z.snd])) ∧ ((D.bool (decide (z.snd < x.fst)) = D.bool true) ∧ ((((List.map ivD (l ++ [z])).length + [D.agg (List.take 2 [D.int .i64 x.fst, D.int .i64 x.snd])].length) * 16 ≤ 140737488355328) ∧ ((∀ (e : D), e ∈ chunk 2 1 [D.int .i64 x.fst, D.int .i64 x.snd] → e.cells.length = 2) ∧ ((AV.own 1200 2 = AV.own 1200 2) ∧ ((Ob.gone = Ob.gone) ∧ ((Ob.row 2 (List.map ivD (l ++ [z]) ++ [D.agg (List.take 2 [D.int .i64 x.fst, D.int .i64 x.snd])]) = Ob.row 2 (List.map ivD (l ++ [z] ++ [x]))) ∧ (True))))))))))))) (h := {els := [(16, .el (ivD z))], H := [(2, [(1, .val (.bool false)), (11, .val (.bool true))])]}) (subs := []) (ws := []) (ρ := []) (by kernel_rfl) ?_
  have e1 : ((l ++ [z]).map ivD).length = l.length + 1 := by simp
  have w1 : IntKind.i64.wrap (((l.length + 1 : Nat) : Int) - 1) = l.length := by rw [IntKind.wrap_i64]; omega
  have e2 : ((l ++ [z]).map ivD)[l.length]? = some (ivD z) := by simp
  have e2' : ((l ++ [z]).map ivD)[((l.length : Int)).toNat]? = some (ivD z) := e2
  have e3 : ((l ++ [z]).map ivD).set l.length (ivD (z.1, x.2)) = (l ++ [(z.1, x.2)]).map ivD := by simp
  have e4 : ∀ e ∈ (l ++ [z]).map ivD, e.cells.length = 2 := fun e he => by
    obtain ⟨y, -, rfl⟩ := List.mem_map.1 he
    rfl
  simp only [e1, w1]
  repeat' (with_reducible first | exact True.intro | apply And.intro | (first | apply zA | apply zB | apply zC | apply zD | apply zE | apply zF | apply zG) <;> intro)
  all_goals first | exact e4 | exact e2' | exact e2 | exact e3 | exact congrArg (Ob.row 2) e3 | rfl | omega | exact dyes (by omega) | exact dno (by omega) | (simp; done) | (simp; omega) | (simp [chunk, ivD, D.cells]; done) | skip

set_option maxRecDepth 100000 in
set_option maxHeartbeats 1000000 in
theorem put45c (l : List Iv) (hl : l.length < 1000000) (z x : Iv) (g : ¬z.2 < x.1) : FnOK Try.prog 90 ([.own 0 2, .d (ivD x)]) ([.row 2 ((l ++ [z]).map ivD)]) (.own 1 2) ([.row 2 ((l ++ [z]).map ivD), .row 2 ((l ++ [(z.1, x.2)]).map ivD)]) := by
  refine fnOK_wp (p := (D.bool ((↑(List.map ivD (l ++ [z])).length : Int) == (0 : Int)) = D.bool false) ∧ ((D.bool false = D.bool false) ∧ (((0 : Int) ≤ IntKind.i64.wrap ((↑(List.map ivD (l ++ [z])).length : Int) - (1 : Int)) ∧ IntKind.i64.wrap ((↑(List.map ivD (l ++ [z])).length : Int) - (1 : Int)) < (↑(List.map ivD (l ++ [z])).length : Int)) ∧ (((IntKind.i64.wrap ((↑(List.map ivD (l ++ [z])).length : Int) - (1 : Int))).toNat < (List.map ivD (l ++ [z])).length) ∧ ((2 = 2) ∧ (((List.map ivD (l ++ [z]))[(IntKind.i64.wrap ((↑(List.map ivD (l ++ [z])).length : Int) - (1 : Int))).toNat]? = some (D.agg [D.int .i64 z.fst, D.int .i64 z.snd])) ∧ ((D.bool (decide (z.snd < x.fst)) = D.bool false) ∧ (((0 + (List.map ivD (l ++ [z])).length) * 16 ≤ 140737488355328) ∧ ((∀ (e : D), e ∈ List.map ivD (l ++ [z]) → e.cells.length = 2) ∧ (((0 : Int) ≤ IntKind.i64.wrap ((↑(List.map ivD (l ++ [z])).length : Int) - (1 : Int)) ∧ IntKind.i64.wrap ((↑(List.map ivD (l ++ [z])).length : Int) - (1 : Int)) < (↑([] ++ List.map ivD (l ++ [z])).length : Int)) ∧ (((IntKind.i64.wrap ((↑(List.map ivD (l ++ [z])).length : Int) - (1 : Int))).toNat < ([] ++ List.map ivD (l ++ [z])).length) ∧ ((2 = 2) ∧ ((([] ++ List.map ivD (l ++ [z]))[(IntKind.i64.wrap ((↑(List.map ivD (l ++ [z])).length : Int) - (1 : Int))).toNat]? = some (D.agg [D.int .i64 z.fst, D.int .i64 z.snd])) ∧ ((AV.own 1224 2 = AV.own 1224 2) ∧ ((Ob.row 2 (List.map ivD (l ++ [z])) = Ob.row 2 (List.map ivD (l ++ [z]))) ∧ ((Ob.row 2 (([] ++ List.map ivD (l ++ [z])).set (IntKind.i64.wrap ((↑(List.map ivD (l ++ [z])).length : Int) - (1 : Int))).toNat (D.agg (List.take 1 [D.int .i64 z.fst, D.int .i64 z.snd] ++ [D.int .i64 x.snd] ++ List.drop (1 + [D.int .i64 x.snd].length) [D.int .i64 z.fst, D.int .i64 z.snd]))) = Ob.row 2 (List.map ivD (l ++ [(z.fst, x.snd)]))) ∧ (True))))))))))))))))) (h := {els := [(16, .el (ivD z)), (35, .el (ivD z))], H := [(2, [(1, .val (.bool false)), (11, .val (.bool false))])]}) (subs := []) (ws := []) (ρ := []) (by kernel_rfl) ?_
  have e1 : ((l ++ [z]).map ivD).length = l.length + 1 := by simp
  have w1 : IntKind.i64.wrap (((l.length + 1 : Nat) : Int) - 1) = l.length := by rw [IntKind.wrap_i64]; omega
  have e2 : ((l ++ [z]).map ivD)[l.length]? = some (ivD z) := by simp
  have e2' : ((l ++ [z]).map ivD)[((l.length : Int)).toNat]? = some (ivD z) := e2
  have e3 : ((l ++ [z]).map ivD).set l.length (ivD (z.1, x.2)) = (l ++ [(z.1, x.2)]).map ivD := by simp
  have e4 : ∀ e ∈ (l ++ [z]).map ivD, e.cells.length = 2 := fun e he => by
    obtain ⟨y, -, rfl⟩ := List.mem_map.1 he
    rfl
  simp only [e1, w1]
  repeat' (with_reducible first | exact True.intro | apply And.intro | (first | apply zA | apply zB | apply zC | apply zD | apply zE | apply zF | apply zG) <;> intro)
  all_goals first | exact e4 | exact e2' | exact e2 | exact e3 | exact congrArg (Ob.row 2) e3 | rfl | omega | exact dyes (by omega) | exact dno (by omega) | (simp; done) | (simp; omega) | (simp [chunk, ivD, D.cells]; done) | skip

theorem put45 (l : List Iv) (hl : l.length < 1000000) (x : Iv) : FnOK Try.prog 90 [.own 0 2, .d (ivD x)] [.row 2 (l.map ivD)] (.own 1 2) [.gone, .row 2 ((dPut l x).map ivD)] := by
  rcases List.eq_nil_or_concat l with rfl | ⟨l, z, rfl⟩
  · exact put45a x
  · rw [List.concat_eq_append] at *
    rw [List.length_append] at hl
    by_cases g : z.2 < x.1
    · rw [dPut_n g]; exact put45b l (by omega) z x g
    · rw [dPut_t g]; exact fnOK_drop (put45c l (by omega) z x g)
end Go.Proofs.Ytfllhedkgeljaaa.C06
