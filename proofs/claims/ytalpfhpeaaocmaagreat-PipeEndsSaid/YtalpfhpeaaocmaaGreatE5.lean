/-
Part 5 of 9 of the proof of pipeEnds: the lemmas that it needs, of the texts C06S2, C06RF, C06RG, C06RH, C06S3, C06S4, C06S5, C06S6, C06S7, C06S8, C06S9, C06S10, C06S11, C06S12, C06S13, C06S14, C06S16, C11S0, C11S1, C11S2. No condition but those that each lemma names.
-/
import Derived.Test.YtalpfhpeaaocmaaGreatE4
import Derived.RangeFuncNested
import Derived.RangeFuncBox
import Derived.RangeFuncBound
import Derived.RangeFuncCalls
import Derived.RangeFuncLeaves
import Derived.Shelf.Abstract
import Derived.Shelf.RegionOpen
import Derived.WalkKit
import Derived.OwnWalkIn
import Derived.TacticsInMore
import Derived.LoopNIn
import Derived.LoopIn
import Derived.Maps.AppendAt
import Derived.KernelRfl
import Derived.Test.YtalpfhpeaaocmaaGreatProg
import Derived.Test.YtalpfhpeaaocmaaGreatE1
import Derived.Test.YtalpfhpeaaocmaaGreatE2
import Derived.Test.YtalpfhpeaaocmaaGreatE3

set_option linter.unusedSimpArgs false
set_option linter.unusedVariables false
set_option maxRecDepth 100000
set_option maxHeartbeats 1000000
section
namespace Go.Proofs.YtalpfhpeaaocmaaGreat.C06
open Sx Go.RowKit
/-- A row that stays where it was may be told as one that moved. -/
theorem fnOK_move {P : Program} {f : FuncId} {args : List AV} {sz : Nat} {l l' : List D} (h : FnOK P f args [.row sz l] (.own 0 sz) [.row sz l']) : FnOK P f args [.row sz l] (.own 1 sz) [.gone, .row sz l'] := by
 refine ⟨h.1, fun w X β vs hO hvs => (h.2 w X β vs hO hvs).mono fun e w' ⟨v, β', he, ha, ho, hs⟩ => ?_⟩
 have hn : ∀ n, n ≠ 0 → β' n = .gone := fun n hn => by
  have := ho.rel n
  have e : Oof [Ob.row sz l'] n = .none := by
   unfold Oof
   cases n with
   | zero => exact absurd rfl hn
   | succ n => rfl
  rw [e] at this
  generalize β' n = g at this
  cases this
  rfl
 obtain ⟨γ, hγ⟩ : ∃ γ : Nat → HE, γ = fun n => if n = 1 then β' 0 else .gone := ⟨_, rfl⟩
 have g1 : γ 1 = β' 0 := by rw [hγ]; rfl
 have g0 : ∀ n, n ≠ 1 → γ n = .gone := fun n hn => by rw [hγ]; simp [hn]
 have hT : ∀ b, Tset γ b → Tset β' b := fun b ⟨o, hb⟩ => by
  by_cases h1 : o = 1
  ·subst h1; rw [g1] at hb; exact ⟨0, hb⟩
  ·rw [g0 o h1] at hb; cases hb
 have hM : ∀ b, Mset X γ b → Mset X β' b ∨ w'.heap.size ≤ b := fun b hb => .inl (by
  rcases hb with hb | hb
  ·exact .inl hb
  ·exact .inr (hT b hb))
 have hC : ∀ o, Oof [Ob.row sz l'] o ≠ .none → Oof [Ob.gone, Ob.row sz l'] o ≠ .none ∧ (γ o = β' o ∨ γ o = .gone) := fun o hh => by
  by_cases h0 : o = 0
  ·subst h0; exact ⟨by simp [Oof], .inr (g0 0 (by simp))⟩
  ·exfalso
   apply hh
   unfold Oof
   cases o with
   | zero => exact absurd rfl h0
   | succ n => rfl
 refine ⟨v, γ, he, ?_, ⟨fun n => ?_, fun n m b h1 h2 => ?_, fun n b h1 => ?_, ho.xlt⟩, ⟨hs.evo, fun o hh => ?_, fun b hb => hs.new b (hT b hb)⟩⟩
 ·cases ha with
  | own o sz v ho' h1' h' => exact .own 1 sz v (by simp [Oof]) h1' (fun sz' len g hg => h' sz' len g (by rw [← g1]; exact hg))
 ·match n with
  | 0 =>
   show ObjRel _ _ _ _ .gone (γ 0)
   rw [g0 0 (by simp)]
   exact .gone
  | 1 =>
   show ObjRel _ _ _ _ (.row sz l') (γ 1)
   rw [g1]
   exact (ho.rel 0).mono (Evo.refl (fun _ => False) w') (fun _ hf => hf.elim) hM hC (fun _ _ => rfl)
  | n + 2 =>
   show ObjRel _ _ _ _ .none (γ (n + 2))
   rw [g0 _ (by omega)]
   exact .none
 ·by_cases a : n = 1
  ·by_cases b' : m = 1
   ·omega
   ·rw [g0 m b'] at h2; cases h2
  ·rw [g0 n a] at h1; cases h1
 ·by_cases a : n = 1
  ·subst a; rw [g1] at h1; exact ho.priv 0 b h1
  ·rw [g0 n a] at h1; cases h1
 ·by_cases a : o = 0
  ·subst a; exact ⟨by simp [Oof], .inr (g0 0 (by simp))⟩
  ·exfalso
   apply hh
   unfold Oof
   cases o with
   | zero => exact absurd rfl a
   | succ n => rfl
def pPut (l : List Iv) (x : Iv) : List Iv :=
 if x.2 ≤ x.1 then l else match l.getLast? with | some z => if z.2 ≥ x.1 then l.dropLast ++ [(z.1, max z.2 x.2)] else l ++ [x] | none => [x]
theorem pPut_none {l : List Iv} {x : Iv} (h : x.2 ≤ x.1) : pPut l x = l := by unfold pPut; rw [if_pos h]
theorem pPut_nil {x : Iv} (h : ¬x.2 ≤ x.1) : pPut [] x = [x] := by unfold pPut; rw [if_neg h]; rfl
theorem pPut_t {l : List Iv} {z x : Iv} (h : ¬x.2 ≤ x.1) (g : z.2 ≥ x.1) : pPut (l ++ [z]) x = l ++ [(z.1, max z.2 x.2)] := by unfold pPut; rw [if_neg h, List.getLast?_append]; simp [g]
theorem pPut_n {l : List Iv} {z x : Iv} (h : ¬x.2 ≤ x.1) (g : ¬z.2 ≥ x.1) : pPut (l ++ [z]) x = l ++ [z] ++ [x] := by unfold pPut; rw [if_neg h, List.getLast?_append]; simp [g]
theorem put33a (l : List Iv) (x : Iv) (h : x.2 ≤ x.1) : FnOK Tryz.prog 120 ([.own 0 2, .d (ivD x)]) ([.row 2 (l.map ivD)]) (.own 0 2) ([.row 2 (l.map ivD)]) := by
 refine fnOK_wp (p := (FnOK Tryz.prog 118 [AV.d (ivD x)] [] (vB true) []) ∧ (rf (AV.own 0 2)) ∧ (rf (Ob.row 2 (List.map ivD l))) ∧ True) (h := {H := [(1, [(1, .call [] (.d (.bool true)) [])])]}) (subs := []) (ws := []) (ρ := []) (by kernel_rfl) ?_
 have k1 := none31 x
 rw [show noneB x = true from decide_eq_true h] at k1
 repeat' (with_reducible first|exact ⟨⟩|apply And.intro|(first|apply zA|apply zB|apply zC|apply zD|apply zE|apply zF|apply zG)<;>intro)
 all_goals first | exact k1 | rfl | exact dyes h | skip
theorem put33b (x : Iv) (h : ¬x.2 ≤ x.1) : FnOK Tryz.prog 120 ([.own 0 2, .d (ivD x)]) ([.row 2 []]) (.own 1 2) ([.gone, .row 2 [ivD x]]) := by
 refine fnOK_wp (p := (FnOK Tryz.prog 118 [AV.d (ivD x)] [] (vB false) []) ∧ (rf (D.bool false)) ∧ (rf (D.bool false)) ∧ (16 ≤ 140737488355328) ∧ (∀ (e : D), e ∈ chunk 2 1 [D.int .i64 x.fst, D.int .i64 x.snd] → e.cells.length = 2) ∧ (rf (AV.own 1336 2)) ∧ (rf (Ob.gone)) ∧ (rf (Ob.row 2 [ivD x])) ∧ True) (h := {H := [(1, [(1, .call [] (.d (.bool false)) [])]), (4, [(1, .val (.bool false))])]}) (subs := []) (ws := []) (ρ := []) (by kernel_rfl) ?_
 have k1 := none31 x
 rw [show noneB x = false from decide_eq_false h] at k1
 repeat' (with_reducible first|exact ⟨⟩|apply And.intro|(first|apply zA|apply zB|apply zC|apply zD|apply zE|apply zF|apply zG)<;>intro)
 all_goals first | exact k1 | rfl | exact dno h | (simp; done) | (simp; omega) | (simp [chunk, ivD, D.cells]; done) | skip
theorem put33c (l : List Iv) (hl : l.length < 1000000) (z x : Iv) (h : ¬x.2 ≤ x.1) (g : z.2 ≥ x.1) : FnOK Tryz.prog 120 ([.own 0 2, .d (ivD x)]) ([.row 2 ((l ++ [z]).map ivD)]) (.own 0 2) ([.row 2 ((l ++ [(z.1, max z.2 x.2)]).map ivD)]) := by
 refine fnOK_wp (p := (FnOK Tryz.prog 118 [AV.d (ivD x)] [] (vB false) []) ∧ (D.bool (decide ((↑(List.map ivD (l ++ [z])).length : Int) > (0 : Int))) = D.bool true) ∧ (rf (D.bool true)) ∧ ((0 : Int) ≤ IntKind.i64.wrap ((↑(List.map ivD (l ++ [z])).length : Int) - (1 : Int)) ∧ IntKind.i64.wrap ((↑(List.map ivD (l ++ [z])).length : Int) - (1 : Int)) < (↑(List.map ivD (l ++ [z])).length : Int)) ∧ ((IntKind.i64.wrap ((↑(List.map ivD (l ++ [z])).length : Int) - (1 : Int))).toNat < (List.map ivD (l ++ [z])).length) ∧ (2 = 2) ∧ ((List.map ivD (l ++ [z]))[(IntKind.i64.wrap ((↑(List.map ivD (l ++ [z])).length : Int) - (1 : Int))).toNat]? = some (ivD z)) ∧ (D.bool (decide (z.snd ≥ x.fst)) = D.bool true) ∧ ((0 : Int) ≤ IntKind.i64.wrap ((↑(List.map ivD (l ++ [z])).length : Int) - (1 : Int)) ∧ IntKind.i64.wrap ((↑(List.map ivD (l ++ [z])).length : Int) - (1 : Int)) < (↑(List.map ivD (l ++ [z])).length : Int)) ∧ ((IntKind.i64.wrap ((↑(List.map ivD (l ++ [z])).length : Int) - (1 : Int))).toNat < (List.map ivD (l ++ [z])).length) ∧ (2 = 2) ∧ ((List.map ivD (l ++ [z]))[(IntKind.i64.wrap ((↑(List.map ivD (l ++ [z])).length : Int) - (1 : Int))).toNat]? = some (ivD z)) ∧ ((0 : Int) ≤ IntKind.i64.wrap ((↑(List.map ivD (l ++ [z])).length : Int) - (1 : Int)) ∧ IntKind.i64.wrap ((↑(List.map ivD (l ++ [z])).length : Int) - (1 : Int)) < (↑(List.map ivD (l ++ [z])).length : Int)) ∧ ((IntKind.i64.wrap ((↑(List.map ivD (l ++ [z])).length : Int) - (1 : Int))).toNat < (List.map ivD (l ++ [z])).length) ∧ (2 = 2) ∧ ((List.map ivD (l ++ [z]))[(IntKind.i64.wrap ((↑(List.map ivD (l ++ [z])).length : Int) - (1 : Int))).toNat]? = some (ivD z)) ∧ (rf (AV.own 0 2)) ∧ (Ob.row 2 ((List.map ivD (l ++ [z])).set (IntKind.i64.wrap ((↑(List.map ivD (l ++ [z])).length : Int) - (1 : Int))).toNat (D.agg (List.take 1 [D.int .i64 z.fst, D.int .i64 z.snd] ++ [D.int .i64 (max z.snd x.snd)] ++ List.drop (1 + [D.int .i64 (max z.snd x.snd)].length) [D.int .i64 z.fst, D.int .i64 z.snd]))) = Ob.row 2 (List.map ivD (l ++ [(z.fst, max z.snd x.snd)]))) ∧ True) (h := {els := [(18, .el (ivD z)), (31, .el (ivD z)), (37, .el (ivD z))], H := [(1, [(1, .call [] (.d (.bool false)) [])]), (4, [(1, .val (.bool true)), (11, .val (.bool true))])]}) (subs := []) (ws := []) (ρ := []) (by kernel_rfl) ?_
 have k1 := none31 x
 rw [show noneB x = false from decide_eq_false h] at k1
 have e1 : ((l ++ [z]).map ivD).length = l.length + 1 := by simp
 have w1 : IntKind.i64.wrap (((l.length + 1 : Nat) : Int) - 1) = l.length := by rw [IntKind.wrap_i64]; omega
 have e2 : ((l ++ [z]).map ivD)[l.length]? = some (ivD z) := by simp
 have e2' : ((l ++ [z]).map ivD)[((l.length : Int)).toNat]? = some (ivD z) := e2
 have e3 : ((l ++ [z]).map ivD).set l.length (ivD (z.1, max z.2 x.2)) = (l ++ [(z.1, max z.2 x.2)]).map ivD := by simp
 simp only [e1, w1]
 repeat' (with_reducible first|exact ⟨⟩|apply And.intro|(first|apply zA|apply zB|apply zC|apply zD|apply zE|apply zF|apply zG)<;>intro)
 all_goals first | exact k1 | exact e2' | exact e2 | exact e3 | exact congrArg (Ob.row 2) e3 | rfl | omega | exact dno h | exact dyes (by omega) | exact dno (by omega) | (simp; done) | (simp; omega) | (simp [chunk, ivD, D.cells]; done) | skip
theorem put33d (l : List Iv) (hl : l.length < 1000000) (z x : Iv) (h : ¬x.2 ≤ x.1) (g : ¬z.2 ≥ x.1) : FnOK Tryz.prog 120 ([.own 0 2, .d (ivD x)]) ([.row 2 ((l ++ [z]).map ivD)]) (.own 1 2) ([.gone, .row 2 ((l ++ [z] ++ [x]).map ivD)]) := by
 refine fnOK_wp (p := (FnOK Tryz.prog 118 [AV.d (ivD x)] [] (vB false) []) ∧ (D.bool (decide ((↑(List.map ivD (l ++ [z])).length : Int) > (0 : Int))) = D.bool true) ∧ (rf (D.bool true)) ∧ ((0 : Int) ≤ IntKind.i64.wrap ((↑(List.map ivD (l ++ [z])).length : Int) - (1 : Int)) ∧ IntKind.i64.wrap ((↑(List.map ivD (l ++ [z])).length : Int) - (1 : Int)) < (↑(List.map ivD (l ++ [z])).length : Int)) ∧ ((IntKind.i64.wrap ((↑(List.map ivD (l ++ [z])).length : Int) - (1 : Int))).toNat < (List.map ivD (l ++ [z])).length) ∧ (2 = 2) ∧ ((List.map ivD (l ++ [z]))[(IntKind.i64.wrap ((↑(List.map ivD (l ++ [z])).length : Int) - (1 : Int))).toNat]? = some (ivD z)) ∧ (D.bool (decide (z.snd ≥ x.fst)) = D.bool false) ∧ (((List.map ivD (l ++ [z])).length + [D.agg (List.take 2 [D.int .i64 x.fst, D.int .i64 x.snd])].length) * 16 ≤ 140737488355328) ∧ (∀ (e : D), e ∈ chunk 2 1 [D.int .i64 x.fst, D.int .i64 x.snd] → e.cells.length = 2) ∧ (rf (AV.own 1336 2)) ∧ (rf (Ob.gone)) ∧ (Ob.row 2 (List.map ivD (l ++ [z]) ++ [D.agg (List.take 2 [D.int .i64 x.fst, D.int .i64 x.snd])]) = Ob.row 2 (List.map ivD (l ++ [z] ++ [x]))) ∧ True) (h := {els := [(18, .el (ivD z))], H := [(1, [(1, .call [] (.d (.bool false)) [])]), (4, [(1, .val (.bool true)), (11, .val (.bool false))])]}) (subs := []) (ws := []) (ρ := []) (by kernel_rfl) ?_
 have k1 := none31 x
 rw [show noneB x = false from decide_eq_false h] at k1
 have e1 : ((l ++ [z]).map ivD).length = l.length + 1 := by simp
 have w1 : IntKind.i64.wrap (((l.length + 1 : Nat) : Int) - 1) = l.length := by rw [IntKind.wrap_i64]; omega
 have e2 : ((l ++ [z]).map ivD)[l.length]? = some (ivD z) := by simp
 have e2' : ((l ++ [z]).map ivD)[((l.length : Int)).toNat]? = some (ivD z) := e2
 have e3 : ((l ++ [z]).map ivD).set l.length (ivD (z.1, max z.2 x.2)) = (l ++ [(z.1, max z.2 x.2)]).map ivD := by simp
 simp only [e1, w1]
 repeat' (with_reducible first|exact ⟨⟩|apply And.intro|(first|apply zA|apply zB|apply zC|apply zD|apply zE|apply zF|apply zG)<;>intro)
 all_goals first | exact k1 | exact e2' | exact e2 | exact e3 | exact congrArg (Ob.row 2) e3 | rfl | omega | exact dno h | exact dyes (by omega) | exact dno (by omega) | (simp; done) | (simp; omega) | (simp [chunk, ivD, D.cells]; done) | skip
theorem put33 (l : List Iv) (hl : l.length < 1000000) (x : Iv) : FnOK Tryz.prog 120 [.own 0 2, .d (ivD x)] [.row 2 (l.map ivD)] (.own 1 2) [.gone, .row 2 ((pPut l x).map ivD)] := by
 by_cases h : x.2 ≤ x.1
 ·rw [pPut_none h]; exact fnOK_move (put33a l x h)
 ·rcases List.eq_nil_or_concat l with rfl | ⟨l, z, rfl⟩
  ·rw [pPut_nil h]; exact put33b x h
  ·rw [List.concat_eq_append] at *
   rw [List.length_append] at hl
   by_cases g : z.2 ≥ x.1
   ·rw [pPut_t h g]; exact fnOK_move (put33c l (by omega) z x h g)
   ·rw [pPut_n h g]; exact put33d l (by omega) z x h g
end Go.Proofs.YtalpfhpeaaocmaaGreat.C06
end
section
namespace Go.Proofs.YtalpfhpeaaocmaaGreat.C06
open Go.RowKit Go.Shelf
attribute [local go_sem] Oper.semAt_some
abbrev ivV (y : Int × Int) : Value := .agg #[.int .i64 y.1, .int .i64 y.2]
theorem none31_in (F : Fence) (n : Nat) (h : F.fn 118) (hro : F.round = none) (y : Int × Int) (w : World) :
  CallsIn F n Tryz.prog 118 #[ivV y] w fun e w' => e = .returned (.bool (decide (y.2 ≤ y.1))) ∧ w' = w.alloc (.cells #[.int .i64 y.1, .int .i64 y.2] 134) := by
 refine callsIn_of_wp Tryz.func118 rfl h ?_ hro
 simp only [Tryz.ntmps118, List.size_toArray, List.length_cons, List.length_nil, Nat.reduceAdd, Nat.reduceSub, Array.replicate_succ, Array.replicate_zero, List.push_toArray, List.append_toArray, List.nil_append, List.cons_append]
 gi_wp2
 go_ret
 exact ⟨rfl, rfl⟩
theorem cell_alloc_k {W : World} {a : Addr} {v : Value} (o : Obj) (h : W.cell? a = some v) : (W.alloc o).cell? a = some v := cell_kept h (World.grownBy_alloc W o none) (fun r e => by cases e)
theorem index71_0 (a b c d : Value) (w : World) : (Instr.index 177 (.agg #[a, b, c, d]) (.int .i64 0)).run Tryz.prog w = .ok (.agg #[a, b]) w := by
 rfl
theorem index71_1 (a b c d : Value) (w : World) : (Instr.index 177 (.agg #[a, b, c, d]) (.int .i64 1)).run Tryz.prog w = .ok (.agg #[c, d]) w := by
 rfl
attribute [local go_sem high] index71_0 index71_1
/-- The cells below `n`, but for block `b5`, lie as they lay. -/
structure KG (n b5 : Nat) (W W' : World) : Prop where
 size : W.heap.size ≤ W'.heap.size
 cell : ∀ a v, a.block < n → a.block ≠ b5 → W.cell? a = some v → W'.cell? a = some v
theorem KG.refl (n b5 : Nat) (W : World) : KG n b5 W W := ⟨Nat.le_refl _, fun _ _ _ _ h => h⟩
theorem KG.trans {n b5 : Nat} {A B C : World} (h : KG n b5 A B) (k : KG n b5 B C) : KG n b5 A C := ⟨Nat.le_trans h.size k.size, fun a v h1 h2 h3 => k.cell a v h1 h2 (h.cell a v h1 h2 h3)⟩
theorem KG.alloc {n b5 : Nat} {A B : World} (h : KG n b5 A B) (o : Obj) : KG n b5 A (B.alloc o) :=
 ⟨by have := h.size; simp; omega, fun a v h1 h2 h3 => (cell_alloc_k o (h.cell a v h1 h2 h3))⟩
/-- The pieces of one interval, of many. -/
def pc1 (x y : Int × Int) : List (Int × Int) := [(y.1, min y.2 x.1), (max y.1 x.2, y.2)].filter (fun p => !decide (p.2 ≤ p.1))
def pcs (x : Int × Int) (l : List (Int × Int)) : List (Int × Int) := l.flatMap (pc1 x)
theorem pcs_snoc (x : Int × Int) (l : List (Int × Int)) (y : Int × Int) : pcs x (l ++ [y]) = pcs x l ++ pc1 x y := by simp [pcs]
/-- The first `m` pieces of an interval. -/
def pcm (x y : Int × Int) (m : Nat) : List (Int × Int) := ([(y.1, min y.2 x.1), (max y.1 x.2, y.2)].take m).filter (fun p => !decide (p.2 ≤ p.1))
theorem pcm_two (x y : Int × Int) : pcm x y 2 = pc1 x y := rfl
theorem pcm_len (x y : Int × Int) (m : Nat) : (pcm x y m).length ≤ m := by
 unfold pcm
 refine Nat.le_trans (List.length_filter_le _ _) ?_
 rw [List.length_take]
 omega
theorem pcs_len (x : Int × Int) (l : List (Int × Int)) : (pcs x l).length ≤ 2 * l.length := by
 induction l with
 | nil => simp [pcs]
 | cons y l ih =>
  have h1 : pcs x (y :: l) = pc1 x y ++ pcs x l := by simp [pcs]
  have h2 := pcm_len x y 2
  rw [pcm_two] at h2
  rw [h1, List.length_append, List.length_cons]
  omega
set_option maxHeartbeats 8000000 in
theorem pieces1_in (F : Fence) (n : Nat) (h : F.fn 125) (h31 : F.fn 118) (hro : F.round = none) (hn : 2 ≤ n) (l Bs Bx b off cap N1 b5 : Nat) (x : Int × Int) (zs : List (Int × Int)) (hlen : zs.length < 1000000000) (J Jx : List (Int × Int) → World → Prop)
  (W : World) (hJ : AbidesFrom W.heap.size J) (hJx : AbidesFrom W.heap.size Jx)
  (hY : ∀ pre y W1, J pre W1 → pre.length < 2 * zs.length → YieldAt F (n - 1) Tryz.prog l #[ivV y] W1 fun e W' =>
   (e = .returned (.bool true) ∧ J (pre ++ [y]) W' ∧ KG N1 b5 W1 W') ∨ (e = .returned (.bool false) ∧ Jx (pre ++ [y]) W'))
  (hs1 : Bs < N1 ∧ Bs ≠ b5) (hs2 : Bx < N1 ∧ Bx ≠ b5) (hs3 : b < N1 ∧ b ≠ b5) (hN : N1 ≤ W.heap.size)
  (hBs : W.cell? ⟨Bs, 0, none⟩ = some (.slice (some ⟨b, off, none⟩) zs.length cap)) (hx1 : W.cell? ⟨Bx, 0, none⟩ = some (.int .i64 x.1)) (hx2 : W.cell? ⟨Bx, 1, none⟩ = some (.int .i64 x.2))
  (hc1 : ∀ j y, zs[j]? = some y → W.cell? ⟨b, off + j * 2, none⟩ = some (.int .i64 y.1)) (hc2 : ∀ j y, zs[j]? = some y → W.cell? ⟨b, off + j * 2 + 1, none⟩ = some (.int .i64 y.2)) (h0 : J [] W) :
  CallsIn F n Tryz.prog 125 #[.func (.yield l) #[] #[], .pointer (some ⟨Bs, 0, none⟩), .pointer (some ⟨Bx, 0, none⟩)] W fun e W' => (∃ v, e = .returned v) ∧
   ((∃ ys, ys = pcs x zs ∧ J ys W') ∨ (∃ pre, True ∧ Jx pre W')) := by
 have h1n : 1 ≤ n := by omega
 have jal : ∀ {s : List (Int × Int)} {A : World} {o : Obj}, J s A → J s (A.alloc o) := fun {s A o} hs => hJ s A _ none hs (World.grownBy_alloc A o none) (fun r e => by cases e)
 refine callsIn_of_wp Tryz.func125 rfl h ?_ hro
 simp only [Tryz.ntmps125, List.size_toArray, List.length_cons, List.length_nil, Nat.reduceAdd, Nat.reduceSub, Array.replicate_succ, Array.replicate_zero, List.push_toArray, List.append_toArray, List.nil_append, List.cons_append]
 gi_wp2
 gi_loopw [10] (fun i wr => ∃ k : Nat, k ≤ zs.length ∧ i = .int .i64 k ∧ J (pcs x (zs.take k)) wr ∧ KG N1 b5 W wr)
  (fun i _ => zs.length - (intOf i).toNat)
 case atStart => exact ⟨0, Nat.zero_le _, rfl, h0, KG.refl _ _ _⟩
 case round =>
  obtain ⟨k, hk, rfl, hJs, hK⟩ := hrel
  by_cases hlt : k < zs.length
  ·obtain ⟨y, hy⟩ : ∃ y, zs[k]? = some y := ⟨_, List.getElem?_eq_getElem hlt⟩
   have hca := hK.cell _ _ hs3.1 hs3.2 (hc1 k y hy)
   have hcb := hK.cell _ _ hs3.1 hs3.2 (hc2 k y hy)
   have hxa := hK.cell _ _ hs2.1 hs2.2 hx1
   have hxb := hK.cell _ _ hs2.1 hs2.2 hx2
   have hBlt : Bx < wr.heap.size := by have := hK.size; omega
   have hpk := pcs_len x (zs.take k)
   have htk : (zs.take k).length = k := by rw [List.length_take]; omega
   have hsn : zs.take (k + 1) = zs.take k ++ [y] := by rw [List.take_add_one, hy]; rfl
   rcases Int.lt_or_le x.1 y.2 with hA | hA <;> rcases Int.lt_or_le y.1 x.2 with hB | hB
   ·
    have eL0 : (pcm x y 0) = [] := rfl
    have eL1 : (pcm x y 1) = (pcm x y 0) ++ (if x.1 ≤ y.1 then [] else [(y.1, x.1)]) := by unfold pcm; rw [show min y.2 x.1 = x.1 by omega]; by_cases g : x.1 ≤ y.1 <;> simp [g]
    have eL2 : (pcm x y 2) = (pcm x y 1) ++ (if y.2 ≤ x.2 then [] else [(x.2, y.2)]) := by unfold pcm; rw [show max y.1 x.2 = x.2 by omega]; by_cases g : y.2 ≤ x.2 <;> simp [g, List.filter_cons] <;> split <;> simp
    gi_wp2
    gi_loopw [31] (fun i wr2 => ∃ m : Nat, m ≤ 2 ∧ i = .int .i64 m ∧ J (pcs x (zs.take k) ++ pcm x y m) wr2 ∧ KG N1 b5 W wr2) (fun i _ => 2 - (intOf i).toNat)
    case atStart => exact ⟨0, by omega, rfl, by rw [eL0, List.append_nil]; exact jal hJs, hK.alloc _⟩
    case round =>
     obtain ⟨m, hm, rfl, hJ2, hK2⟩ := hrel
     have hpl := pcm_len x y m
     rcases (by omega : m = 0 ∨ m = 1 ∨ m = 2) with rfl | rfl | rfl
     ·
      by_cases hno : x.1 ≤ y.1
      ·gi_wp2_with (gi_at_call 118; refine (none31_in F (n - 1) h31 hro (y.1, x.1) _).mono ?_; rintro e w' ⟨rfl, rfl⟩)
       refine ⟨fun _ h => (by cases h), ?_⟩
       gi_wp2
       go_roundw
       case rel => exact ⟨1, by omega, by simp, by rw [eL1, if_pos hno, List.append_nil]; exact jal (jal hJ2), (hK2.alloc _).alloc _⟩
       case measure => simp [intOf]
      ·obtain ⟨fn, tmps, assign, body, hy2, hR⟩ := hY _ (y.1, x.1) _ (jal (o := .cells #[.int .i64 (y.1), .int .i64 (x.1)] 134) (jal (o := .cells #[.int .i64 (y.1), .int .i64 (x.1)] 134) hJ2)) (by rw [List.length_append]; omega)
       gi_wp2_with (gi_at_call 118; refine (none31_in F (n - 1) h31 hro (y.1, x.1) _).mono ?_; rintro e w' ⟨rfl, rfl⟩)
       refine hR.mono ?_
       rintro e W3 (⟨rfl, hJ3, hk3⟩ | ⟨rfl, hJx3⟩)
       ·gi_wp2
        go_roundw
        case rel => exact ⟨1, by omega, by simp, by rw [eL1, if_neg (by omega), ← List.append_assoc]; exact hJ3, ((hK2.alloc _).alloc _).trans hk3⟩
        case measure => simp [intOf]
       ·gi_wp2
        refine bodyPost_ret (results_none rfl _ _ _) rfl ?_
        exact ⟨⟨_, rfl⟩, .inr ⟨_, trivial, hJx3⟩⟩
        all_goals (exfalso; rename_i hq; simp at hq; omega)
     ·
      by_cases hno : y.2 ≤ x.2
      ·gi_wp2_with (gi_at_call 118; refine (none31_in F (n - 1) h31 hro (x.2, y.2) _).mono ?_; rintro e w' ⟨rfl, rfl⟩)
       refine ⟨fun _ h => (by cases h), ?_⟩
       gi_wp2
       go_roundw
       case rel => exact ⟨2, by omega, by simp, by rw [eL2, if_pos hno, List.append_nil]; exact jal (jal hJ2), (hK2.alloc _).alloc _⟩
       case measure => simp [intOf]
      ·obtain ⟨fn, tmps, assign, body, hy2, hR⟩ := hY _ (x.2, y.2) _ (jal (o := .cells #[.int .i64 (x.2), .int .i64 (y.2)] 134) (jal (o := .cells #[.int .i64 (x.2), .int .i64 (y.2)] 134) hJ2)) (by rw [List.length_append]; omega)
       gi_wp2_with (gi_at_call 118; refine (none31_in F (n - 1) h31 hro (x.2, y.2) _).mono ?_; rintro e w' ⟨rfl, rfl⟩)
       refine hR.mono ?_
       rintro e W3 (⟨rfl, hJ3, hk3⟩ | ⟨rfl, hJx3⟩)
       ·gi_wp2
        go_roundw
        case rel => exact ⟨2, by omega, by simp, by rw [eL2, if_neg (by omega), ← List.append_assoc]; exact hJ3, ((hK2.alloc _).alloc _).trans hk3⟩
        case measure => simp [intOf]
       ·gi_wp2
        refine bodyPost_ret (results_none rfl _ _ _) rfl ?_
        exact ⟨⟨_, rfl⟩, .inr ⟨_, trivial, hJx3⟩⟩
        all_goals (exfalso; rename_i hq; simp at hq; omega)
     ·gi_wp2
      go_roundw
      case rel => exact ⟨k + 1, by omega, by simp, by rw [hsn, pcs_snoc, ← pcm_two]; exact hJ2, hK2⟩
      case measure => simp [intOf]; omega
   ·
    have eL0 : (pcm x y 0) = [] := rfl
    have eL1 : (pcm x y 1) = (pcm x y 0) ++ (if x.1 ≤ y.1 then [] else [(y.1, x.1)]) := by unfold pcm; rw [show min y.2 x.1 = x.1 by omega]; by_cases g : x.1 ≤ y.1 <;> simp [g]
    have eL2 : (pcm x y 2) = (pcm x y 1) ++ (if y.2 ≤ y.1 then [] else [(y.1, y.2)]) := by unfold pcm; rw [show max y.1 x.2 = y.1 by omega]; by_cases g : y.2 ≤ y.1 <;> simp [g, List.filter_cons] <;> split <;> simp
    gi_wp2
    gi_loopw [31] (fun i wr2 => ∃ m : Nat, m ≤ 2 ∧ i = .int .i64 m ∧ J (pcs x (zs.take k) ++ pcm x y m) wr2 ∧ KG N1 b5 W wr2) (fun i _ => 2 - (intOf i).toNat)
    case atStart => exact ⟨0, by omega, rfl, by rw [eL0, List.append_nil]; exact jal hJs, hK.alloc _⟩
    case round =>
     obtain ⟨m, hm, rfl, hJ2, hK2⟩ := hrel
     have hpl := pcm_len x y m
     rcases (by omega : m = 0 ∨ m = 1 ∨ m = 2) with rfl | rfl | rfl
     ·
      by_cases hno : x.1 ≤ y.1
      ·gi_wp2_with (gi_at_call 118; refine (none31_in F (n - 1) h31 hro (y.1, x.1) _).mono ?_; rintro e w' ⟨rfl, rfl⟩)
       refine ⟨fun _ h => (by cases h), ?_⟩
       gi_wp2
       go_roundw
       case rel => exact ⟨1, by omega, by simp, by rw [eL1, if_pos hno, List.append_nil]; exact jal (jal hJ2), (hK2.alloc _).alloc _⟩
       case measure => simp [intOf]
      ·obtain ⟨fn, tmps, assign, body, hy2, hR⟩ := hY _ (y.1, x.1) _ (jal (o := .cells #[.int .i64 (y.1), .int .i64 (x.1)] 134) (jal (o := .cells #[.int .i64 (y.1), .int .i64 (x.1)] 134) hJ2)) (by rw [List.length_append]; omega)
       gi_wp2_with (gi_at_call 118; refine (none31_in F (n - 1) h31 hro (y.1, x.1) _).mono ?_; rintro e w' ⟨rfl, rfl⟩)
       refine hR.mono ?_
       rintro e W3 (⟨rfl, hJ3, hk3⟩ | ⟨rfl, hJx3⟩)
       ·gi_wp2
        go_roundw
        case rel => exact ⟨1, by omega, by simp, by rw [eL1, if_neg (by omega), ← List.append_assoc]; exact hJ3, ((hK2.alloc _).alloc _).trans hk3⟩
        case measure => simp [intOf]
       ·gi_wp2
        refine bodyPost_ret (results_none rfl _ _ _) rfl ?_
        exact ⟨⟨_, rfl⟩, .inr ⟨_, trivial, hJx3⟩⟩
        all_goals (exfalso; rename_i hq; simp at hq; omega)
     ·
      by_cases hno : y.2 ≤ y.1
      ·gi_wp2_with (gi_at_call 118; refine (none31_in F (n - 1) h31 hro (y.1, y.2) _).mono ?_; rintro e w' ⟨rfl, rfl⟩)
       refine ⟨fun _ h => (by cases h), ?_⟩
       gi_wp2
       go_roundw
       case rel => exact ⟨2, by omega, by simp, by rw [eL2, if_pos hno, List.append_nil]; exact jal (jal hJ2), (hK2.alloc _).alloc _⟩
       case measure => simp [intOf]
      ·obtain ⟨fn, tmps, assign, body, hy2, hR⟩ := hY _ (y.1, y.2) _ (jal (o := .cells #[.int .i64 (y.1), .int .i64 (y.2)] 134) (jal (o := .cells #[.int .i64 (y.1), .int .i64 (y.2)] 134) hJ2)) (by rw [List.length_append]; omega)
       gi_wp2_with (gi_at_call 118; refine (none31_in F (n - 1) h31 hro (y.1, y.2) _).mono ?_; rintro e w' ⟨rfl, rfl⟩)
       refine hR.mono ?_
       rintro e W3 (⟨rfl, hJ3, hk3⟩ | ⟨rfl, hJx3⟩)
       ·gi_wp2
        go_roundw
        case rel => exact ⟨2, by omega, by simp, by rw [eL2, if_neg (by omega), ← List.append_assoc]; exact hJ3, ((hK2.alloc _).alloc _).trans hk3⟩
        case measure => simp [intOf]
       ·gi_wp2
        refine bodyPost_ret (results_none rfl _ _ _) rfl ?_
        exact ⟨⟨_, rfl⟩, .inr ⟨_, trivial, hJx3⟩⟩
        all_goals (exfalso; rename_i hq; simp at hq; omega)
     ·gi_wp2
      go_roundw
      case rel => exact ⟨k + 1, by omega, by simp, by rw [hsn, pcs_snoc, ← pcm_two]; exact hJ2, hK2⟩
      case measure => simp [intOf]; omega
   ·
    have eL0 : (pcm x y 0) = [] := rfl
    have eL1 : (pcm x y 1) = (pcm x y 0) ++ (if y.2 ≤ y.1 then [] else [(y.1, y.2)]) := by unfold pcm; rw [show min y.2 x.1 = y.2 by omega]; by_cases g : y.2 ≤ y.1 <;> simp [g]
    have eL2 : (pcm x y 2) = (pcm x y 1) ++ (if y.2 ≤ x.2 then [] else [(x.2, y.2)]) := by unfold pcm; rw [show max y.1 x.2 = x.2 by omega]; by_cases g : y.2 ≤ x.2 <;> simp [g, List.filter_cons] <;> split <;> simp
    gi_wp2
    gi_loopw [31] (fun i wr2 => ∃ m : Nat, m ≤ 2 ∧ i = .int .i64 m ∧ J (pcs x (zs.take k) ++ pcm x y m) wr2 ∧ KG N1 b5 W wr2) (fun i _ => 2 - (intOf i).toNat)
    case atStart => exact ⟨0, by omega, rfl, by rw [eL0, List.append_nil]; exact jal hJs, hK.alloc _⟩
    case round =>
     obtain ⟨m, hm, rfl, hJ2, hK2⟩ := hrel
     have hpl := pcm_len x y m
     rcases (by omega : m = 0 ∨ m = 1 ∨ m = 2) with rfl | rfl | rfl
     ·
      by_cases hno : y.2 ≤ y.1
      ·gi_wp2_with (gi_at_call 118; refine (none31_in F (n - 1) h31 hro (y.1, y.2) _).mono ?_; rintro e w' ⟨rfl, rfl⟩)
       refine ⟨fun _ h => (by cases h), ?_⟩
       gi_wp2
       go_roundw
       case rel => exact ⟨1, by omega, by simp, by rw [eL1, if_pos hno, List.append_nil]; exact jal (jal hJ2), (hK2.alloc _).alloc _⟩
       case measure => simp [intOf]
      ·obtain ⟨fn, tmps, assign, body, hy2, hR⟩ := hY _ (y.1, y.2) _ (jal (o := .cells #[.int .i64 (y.1), .int .i64 (y.2)] 134) (jal (o := .cells #[.int .i64 (y.1), .int .i64 (y.2)] 134) hJ2)) (by rw [List.length_append]; omega)
       gi_wp2_with (gi_at_call 118; refine (none31_in F (n - 1) h31 hro (y.1, y.2) _).mono ?_; rintro e w' ⟨rfl, rfl⟩)
       refine hR.mono ?_
       rintro e W3 (⟨rfl, hJ3, hk3⟩ | ⟨rfl, hJx3⟩)
       ·gi_wp2
        go_roundw
        case rel => exact ⟨1, by omega, by simp, by rw [eL1, if_neg (by omega), ← List.append_assoc]; exact hJ3, ((hK2.alloc _).alloc _).trans hk3⟩
        case measure => simp [intOf]
       ·gi_wp2
        refine bodyPost_ret (results_none rfl _ _ _) rfl ?_
        exact ⟨⟨_, rfl⟩, .inr ⟨_, trivial, hJx3⟩⟩
        all_goals (exfalso; rename_i hq; simp at hq; omega)
     ·
      by_cases hno : y.2 ≤ x.2
      ·gi_wp2_with (gi_at_call 118; refine (none31_in F (n - 1) h31 hro (x.2, y.2) _).mono ?_; rintro e w' ⟨rfl, rfl⟩)
       refine ⟨fun _ h => (by cases h), ?_⟩
       gi_wp2
       go_roundw
       case rel => exact ⟨2, by omega, by simp, by rw [eL2, if_pos hno, List.append_nil]; exact jal (jal hJ2), (hK2.alloc _).alloc _⟩
       case measure => simp [intOf]
      ·obtain ⟨fn, tmps, assign, body, hy2, hR⟩ := hY _ (x.2, y.2) _ (jal (o := .cells #[.int .i64 (x.2), .int .i64 (y.2)] 134) (jal (o := .cells #[.int .i64 (x.2), .int .i64 (y.2)] 134) hJ2)) (by rw [List.length_append]; omega)
       gi_wp2_with (gi_at_call 118; refine (none31_in F (n - 1) h31 hro (x.2, y.2) _).mono ?_; rintro e w' ⟨rfl, rfl⟩)
       refine hR.mono ?_
       rintro e W3 (⟨rfl, hJ3, hk3⟩ | ⟨rfl, hJx3⟩)
       ·gi_wp2
        go_roundw
        case rel => exact ⟨2, by omega, by simp, by rw [eL2, if_neg (by omega), ← List.append_assoc]; exact hJ3, ((hK2.alloc _).alloc _).trans hk3⟩
        case measure => simp [intOf]
       ·gi_wp2
        refine bodyPost_ret (results_none rfl _ _ _) rfl ?_
        exact ⟨⟨_, rfl⟩, .inr ⟨_, trivial, hJx3⟩⟩
        all_goals (exfalso; rename_i hq; simp at hq; omega)
     ·gi_wp2
      go_roundw
      case rel => exact ⟨k + 1, by omega, by simp, by rw [hsn, pcs_snoc, ← pcm_two]; exact hJ2, hK2⟩
      case measure => simp [intOf]; omega
   ·
    have eL0 : (pcm x y 0) = [] := rfl
    have eL1 : (pcm x y 1) = (pcm x y 0) ++ (if y.2 ≤ y.1 then [] else [(y.1, y.2)]) := by unfold pcm; rw [show min y.2 x.1 = y.2 by omega]; by_cases g : y.2 ≤ y.1 <;> simp [g]
    have eL2 : (pcm x y 2) = (pcm x y 1) ++ (if y.2 ≤ y.1 then [] else [(y.1, y.2)]) := by unfold pcm; rw [show max y.1 x.2 = y.1 by omega]; by_cases g : y.2 ≤ y.1 <;> simp [g, List.filter_cons] <;> split <;> simp
    gi_wp2
    gi_loopw [31] (fun i wr2 => ∃ m : Nat, m ≤ 2 ∧ i = .int .i64 m ∧ J (pcs x (zs.take k) ++ pcm x y m) wr2 ∧ KG N1 b5 W wr2) (fun i _ => 2 - (intOf i).toNat)
    case atStart => exact ⟨0, by omega, rfl, by rw [eL0, List.append_nil]; exact jal hJs, hK.alloc _⟩
    case round =>
     obtain ⟨m, hm, rfl, hJ2, hK2⟩ := hrel
     have hpl := pcm_len x y m
     rcases (by omega : m = 0 ∨ m = 1 ∨ m = 2) with rfl | rfl | rfl
     ·
      by_cases hno : y.2 ≤ y.1
      ·gi_wp2_with (gi_at_call 118; refine (none31_in F (n - 1) h31 hro (y.1, y.2) _).mono ?_; rintro e w' ⟨rfl, rfl⟩)
       refine ⟨fun _ h => (by cases h), ?_⟩
       gi_wp2
       go_roundw
       case rel => exact ⟨1, by omega, by simp, by rw [eL1, if_pos hno, List.append_nil]; exact jal (jal hJ2), (hK2.alloc _).alloc _⟩
       case measure => simp [intOf]
      ·obtain ⟨fn, tmps, assign, body, hy2, hR⟩ := hY _ (y.1, y.2) _ (jal (o := .cells #[.int .i64 (y.1), .int .i64 (y.2)] 134) (jal (o := .cells #[.int .i64 (y.1), .int .i64 (y.2)] 134) hJ2)) (by rw [List.length_append]; omega)
       gi_wp2_with (gi_at_call 118; refine (none31_in F (n - 1) h31 hro (y.1, y.2) _).mono ?_; rintro e w' ⟨rfl, rfl⟩)
       refine hR.mono ?_
       rintro e W3 (⟨rfl, hJ3, hk3⟩ | ⟨rfl, hJx3⟩)
       ·gi_wp2
        go_roundw
        case rel => exact ⟨1, by omega, by simp, by rw [eL1, if_neg (by omega), ← List.append_assoc]; exact hJ3, ((hK2.alloc _).alloc _).trans hk3⟩
        case measure => simp [intOf]
       ·gi_wp2
        refine bodyPost_ret (results_none rfl _ _ _) rfl ?_
        exact ⟨⟨_, rfl⟩, .inr ⟨_, trivial, hJx3⟩⟩
        all_goals (exfalso; rename_i hq; simp at hq; omega)
     ·
      by_cases hno : y.2 ≤ y.1
      ·gi_wp2_with (gi_at_call 118; refine (none31_in F (n - 1) h31 hro (y.1, y.2) _).mono ?_; rintro e w' ⟨rfl, rfl⟩)
       refine ⟨fun _ h => (by cases h), ?_⟩
       gi_wp2
       go_roundw
       case rel => exact ⟨2, by omega, by simp, by rw [eL2, if_pos hno, List.append_nil]; exact jal (jal hJ2), (hK2.alloc _).alloc _⟩
       case measure => simp [intOf]
      ·obtain ⟨fn, tmps, assign, body, hy2, hR⟩ := hY _ (y.1, y.2) _ (jal (o := .cells #[.int .i64 (y.1), .int .i64 (y.2)] 134) (jal (o := .cells #[.int .i64 (y.1), .int .i64 (y.2)] 134) hJ2)) (by rw [List.length_append]; omega)
       gi_wp2_with (gi_at_call 118; refine (none31_in F (n - 1) h31 hro (y.1, y.2) _).mono ?_; rintro e w' ⟨rfl, rfl⟩)
       refine hR.mono ?_
       rintro e W3 (⟨rfl, hJ3, hk3⟩ | ⟨rfl, hJx3⟩)
       ·gi_wp2
        go_roundw
        case rel => exact ⟨2, by omega, by simp, by rw [eL2, if_neg (by omega), ← List.append_assoc]; exact hJ3, ((hK2.alloc _).alloc _).trans hk3⟩
        case measure => simp [intOf]
       ·gi_wp2
        refine bodyPost_ret (results_none rfl _ _ _) rfl ?_
        exact ⟨⟨_, rfl⟩, .inr ⟨_, trivial, hJx3⟩⟩
        all_goals (exfalso; rename_i hq; simp at hq; omega)
     ·gi_wp2
      go_roundw
      case rel => exact ⟨k + 1, by omega, by simp, by rw [hsn, pcs_snoc, ← pcm_two]; exact hJ2, hK2⟩
      case measure => simp [intOf]; omega
  ·obtain rfl : k = zs.length := by omega
   gi_wp2
   go_end0
   rw [List.take_length] at hJs
   exact ⟨⟨_, rfl⟩, .inl ⟨_, rfl, hJs⟩⟩
end Go.Proofs.YtalpfhpeaaocmaaGreat.C06
end
section
namespace Go.Proofs.YtalpfhpeaaocmaaGreat.C06
open Go.RowKit Go.Shelf
attribute [local go_sem] Oper.semAt_some
theorem pieces37_in (F : Fence) (n : Nat) (h : F.fn 122) (hro : F.round = none) (a : Option Addr) (len cap : Nat) (x : Int × Int) (w : World) :
  CallsIn F n Tryz.prog 122 #[.slice a len cap, ivV x] w fun e w' => e = .returned (.func (.func 125) #[] #[.pointer (some ⟨w.heap.size, 0, none⟩), .pointer (some ⟨w.heap.size + 1, 0, none⟩)]) ∧
   w' = (w.alloc (.cells #[.slice a len cap] 38)).alloc (.cells #[.int .i64 x.1, .int .i64 x.2] 134) := by
 refine callsIn_of_wp Tryz.func122 rfl h ?_ hro
 simp only [Tryz.ntmps122, List.size_toArray, List.length_cons, List.length_nil, Nat.reduceAdd, Nat.reduceSub, Array.replicate_succ, Array.replicate_zero, List.push_toArray, List.append_toArray, List.nil_append, List.cons_append]
 gi_wp2
 go_ret
 exact ⟨rfl, rfl⟩
theorem pieces1_nil (F : Fence) (n : Nat) (h : F.fn 125) (hro : F.round = none) (l Bs Bx cap : Nat) (a : Option Addr) (J : List (Int × Int) → World → Prop) (W : World)
  (hBs : W.cell? ⟨Bs, 0, none⟩ = some (.slice a 0 cap)) (h0 : J [] W) :
  CallsIn F n Tryz.prog 125 #[.func (.yield l) #[] #[], .pointer (some ⟨Bs, 0, none⟩), .pointer (some ⟨Bx, 0, none⟩)] W fun e W' => (∃ v, e = .returned v) ∧ J [] W' := by
 refine callsIn_of_wp Tryz.func125 rfl h ?_ hro
 simp only [Tryz.ntmps125, List.size_toArray, List.length_cons, List.length_nil, Nat.reduceAdd, Nat.reduceSub, Array.replicate_succ, Array.replicate_zero, List.push_toArray, List.append_toArray, List.nil_append, List.cons_append]
 gi_wp2
 gi_loopw [10] (fun i wr => i = .int .i64 0 ∧ J [] wr) (fun _ _ => 0)
 case atStart => exact ⟨rfl, h0⟩
 case round =>
  obtain ⟨rfl, hJs⟩ := hrel
  gi_wp2
  go_end0
  exact ⟨⟨_, rfl⟩, hJs⟩
/-- The slice value holds the intervals, in a block below `n`, not `b5`; or there are none. -/
def IvsIn (n b5 : Nat) (W : World) (sv : Value) (zs : List (Int × Int)) : Prop :=
 (∃ a c, sv = .slice a 0 c ∧ zs = []) ∨ ∃ b off cap, sv = .slice (some ⟨b, off, none⟩) zs.length cap ∧ (b < n ∧ b ≠ b5) ∧
  (∀ j y, zs[j]? = some y → W.cell? ⟨b, off + j * 2, none⟩ = some (.int .i64 y.1)) ∧ (∀ j y, zs[j]? = some y → W.cell? ⟨b, off + j * 2 + 1, none⟩ = some (.int .i64 y.2))
theorem pieces_stops (F : Fence) (n : Nat) (h : F.fn 125) (h31 : F.fn 118) (hro : F.round = none) (hn : 2 ≤ n) (Bs Bx N1 b5 : Nat) (x : Int × Int) (sv : Value) (zs : List (Int × Int)) (hlen : zs.length < 1000000000) (w : World)
  (hs1 : Bs < N1 ∧ Bs ≠ b5) (hs2 : Bx < N1 ∧ Bx ≠ b5) (hN : N1 = w.heap.size)
  (hBs : w.cell? ⟨Bs, 0, none⟩ = some sv) (hx1 : w.cell? ⟨Bx, 0, none⟩ = some (.int .i64 x.1)) (hx2 : w.cell? ⟨Bx, 1, none⟩ = some (.int .i64 x.2)) (hI : IvsIn N1 b5 w sv zs) :
  SeqStopsK F n Tryz.prog 125 #[.pointer (some ⟨Bs, 0, none⟩), .pointer (some ⟨Bx, 0, none⟩)] (fun y : Int × Int => #[ivV y]) (KG N1 b5) (fun ys => ys = pcs x zs) (fun _ => True) (2 * zs.length) w := fun l J Jx W hW hJ hJx hY h0 => by
 subst hN
 have hc : ∀ a v, a.block < w.heap.size → w.cell? a = some v → W.cell? a = some v := fun a v h1 h2 => (hW.cell (p := a) h1).trans h2
 rcases hI with ⟨a, c, rfl, rfl⟩ | ⟨b, off, cap, rfl, hb, hc1, hc2⟩
 ·exact (pieces1_nil F n h hro l Bs Bx c a J W (hc _ _ hs1.1 hBs) h0).mono fun e W' ⟨he, hj⟩ => ⟨he, .inl ⟨_, rfl, hj⟩⟩
 ·exact pieces1_in F n h h31 hro hn l Bs Bx b off cap w.heap.size b5 x zs hlen J Jx W hJ hJx hY hs1 hs2 hb hW.size (hc _ _ hs1.1 hBs) (hc _ _ hs2.1 hx1) (hc _ _ hs2.1 hx2) (fun j y hy => hc _ _ hb.1 (hc1 j y hy)) (fun j y hy => hc _ _ hb.1 (hc2 j y hy)) h0
theorem Below.cellv {n : Nat} {A B : World} (h : Below n A B) {a : Addr} {v : Value} (ha : a.block < n) (hv : A.cell? a = some v) : B.cell? a = some v := (h.cell (p := a) ha).trans hv
theorem cell2a (w : World) (a b : Value) (t : TypeId) : (w.alloc (.cells #[a, b] t)).cell? ⟨w.heap.size, 0, none⟩ = some a := by
 unfold World.cell?
 rw [World.alloc_heap_new w _]
 rfl
theorem cell2b (w : World) (a b : Value) (t : TypeId) : (w.alloc (.cells #[a, b] t)).cell? ⟨w.heap.size, 1, none⟩ = some b := by
 unfold World.cell?
 rw [World.alloc_heap_new w _]
 rfl
def ivsV (l : List (Int × Int)) : List Value := l.flatMap fun y => [.int .i64 y.1, .int .i64 y.2]
theorem ivsV_len (l : List (Int × Int)) : (ivsV l).length = l.length * 2 := by
 induction l with
 | nil => rfl
 | cons y l ih =>
  have : ivsV (y :: l) = [.int .i64 y.1, .int .i64 y.2] ++ ivsV l := by simp [ivsV]
  rw [this, List.length_append, ih, List.length_cons]
  simp
  omega
theorem KG.put {n b5 : Nat} (W : World) (l : Nat) {o : Obj} (o' : Obj) (hl : W.heap[l]? = some o) (ho : o.isCells = false) : KG n b5 W (W.putObj l o') :=
 ⟨by simp, fun a v _ _ h => cell_kept h (grownBy_putObj' W l o') (fun r e => by cases e; exact ⟨o, hl, ho⟩)⟩
theorem ownsRow_base {W : World} {b b' e n : Nat} {size : Nat} {v : Value} {xs : List Value} (h : W.ownsRow b e size v n xs) (hb : b' ≤ b) : W.ownsRow b' e size v n xs := by
 refine ⟨h.1, ?_⟩
 rcases h.2 with h2 | ⟨g, cap, cur, h3, h4, h5⟩
 ·exact .inl h2
 ·exact .inr ⟨g, cap, cur, h3, Nat.le_trans hb h4, h5⟩
theorem info29 : (Tryz.prog.info? 134).map (fun i => (i.zero, i.size, i.bytes)) = some (some (.agg #[.int .i64 0, .int .i64 0]), 2, 16) := by kernel_rfl
theorem cell_two_new (w : World) (x y : Value) (t : TypeId) : ∀ j u, [x, y][j]? = some u → (w.alloc (.cells #[x, y] t)).cell? ((⟨w.heap.size, 0, none⟩ : Addr).add j) = some u := by
 intro j u hj
 match j, hj with
 | 0, hj => simp at hj; subst hj; exact cell2a w x y t
 | 1, hj => simp at hj; subst hj; exact cell2b w x y t
theorem ivsV_snoc (l : List (Int × Int)) (y : Int × Int) : ivsV (l ++ [y]) = ivsV l ++ [.int .i64 y.1, .int .i64 y.2] := by simp [ivsV]
theorem app_kg {W w1 : World} {N1 B : Nat} {t e : TypeId} {size : Nat} {v v' : Value} {k m : Nat} {xs ys : List Value} {tmp : Obj}
  (hv : Boxed W B t v) (hte : t ≠ e) (hrow : W.ownsRow N1 e size v k xs) (hN : N1 ≤ W.heap.size) (hBN : B ≤ N1)
  (hown' : w1.ownsRow N1 e size v' m ys) (hgrow : (W.alloc tmp).grownBy w1 v.ownBlock) :
  Boxed w1 B t v ∧ Boxed (w1.setCell ⟨B, 0, none⟩ v') B t v' ∧ (w1.setCell ⟨B, 0, none⟩ v').ownsRow N1 e size v' m ys ∧ KeepsOthers W (w1.setCell ⟨B, 0, none⟩ v') ∧ KG N1 B W (w1.setCell ⟨B, 0, none⟩ v') ∧ Below B W (w1.setCell ⟨B, 0, none⟩ v') := by
 have hBs := hv.lt
 obtain ⟨q1, q2, q3, q4, q5⟩ := Boxed.appended (n₀ := B) hv hte (ownsRow_base hrow hBN) (by omega) (Nat.le_refl _) (ownsRow_base hown' hBN) hgrow
 refine ⟨q1, q2, hown'.kept (grownBy_setCell' w1 B v') (.inr (q1.not_row hte hown').symm), q4, ⟨q5.size, fun a u h1 h2 h3 => ?_⟩, q5⟩
 have hb1 : Below N1 W w1 := ((Below.refl N1 W).alloc hN tmp).grown hgrow (by simp; omega) fun j ej => by
  rcases hrow.2 with ⟨rfl, _⟩ | ⟨g, cap, cur, rfl, hb, _, _⟩
  ·simp [Value.ownBlock] at ej
  ·obtain rfl : g = j := by simpa [Value.ownBlock] using ej
   exact hb
 have h4 : w1.cell? a = some u := Below.cellv hb1 h1 h3
 unfold World.cell? at h4 ⊢
 rw [Below.heap_setCell w1 ⟨B, 0, none⟩ v' a.block h2]
 exact h4
set_option maxHeartbeats 4000000 in
theorem Cut_in (F : Fence) (n : Nat) (h : F.fn 110) (h19 : F.fn 102) (h30 : F.fn 117) (h31 : F.fn 118) (h37 : F.fn 122) (h46 : F.fn 125) (hro : F.round = none) (hn : 5 ≤ n) (a : Option Addr) (len cap : Nat) (x : Int × Int) (hx : x.1 < x.2) (zs : List (Int × Int)) (hlen : zs.length < 1000000) (w : World)
  (hmay : ∀ W, CallsIn F (n - 1) Tryz.prog 117 #[ivV x] W fun e W' => e = .returned (.bool true) ∧ Below W.heap.size W W')
  (hchk : ∀ W, Below w.heap.size w W → CallsIn F (n - 1) Tryz.prog 102 #[.slice a len cap] W fun e W' => e = .returned (.int .i64 0) ∧ Below W.heap.size W W')
  (hI : IvsIn w.heap.size w.heap.size w (.slice a len cap) zs) :
  CallsIn F n Tryz.prog 110 #[.slice a len cap, ivV x] w fun e W' => ∃ v, e = .returned v ∧ W'.ownsRow w.heap.size 134 2 v (pcs x zs).length (ivsV (pcs x zs)) ∧ Below w.heap.size w W' := by
 have h1 : 1 ≤ n := by omega
 obtain ⟨i0, hi, hz0, hz1, hz2⟩ := info_parts info29
 refine callsIn_of_wp_marks Tryz.func110 rfl h ?_ hro
 simp only [Tryz.ntmps110, List.size_toArray, List.length_cons, List.length_nil, Nat.reduceAdd, Nat.reduceSub, Array.replicate_succ, Array.replicate_zero, List.push_toArray, List.append_toArray, List.nil_append, List.cons_append]
 have hb0 : Below w.heap.size w (w.alloc (.cells #[.int .i64 x.1, .int .i64 x.2] 134)) := (Below.refl _ w).alloc (Nat.le_refl _) _
 gi_wp2_with (first
  | (gi_at_call 117; refine (hmay _).mono ?_; rintro e w1 ⟨rfl, hb1⟩; have ca1 := Below.cellv hb1 (a := ⟨w.heap.size, 0, none⟩) (by simp) (cell2a w _ _ 134); have ca2 := Below.cellv hb1 (a := ⟨w.heap.size, 1, none⟩) (by simp) (cell2b w _ _ 134); have hs1 := hb1.size; simp only [World.size_alloc] at hs1; have hlt1 : w.heap.size < w1.heap.size := by omega)
  | (gi_at_call 118; refine (none31_in F (n - 1) h31 hro x _).mono ?_; rintro e w' ⟨rfl, rfl⟩)
  | (gi_at_call 102; have hbA : Below w.heap.size w (w1.alloc (.cells #[.int .i64 x.1, .int .i64 x.2] 134)) := (hb0.trans (hb1.mono hb0.size)).alloc (by omega) _; refine (hchk _ hbA).mono ?_; rintro e w2 ⟨rfl, hb2⟩; have cb1 := Below.cellv hb2 (a := ⟨w.heap.size, 0, none⟩) (by simp; omega) (cell_alloc_k _ ca1); have cb2 := Below.cellv hb2 (a := ⟨w.heap.size, 1, none⟩) (by simp; omega) (cell_alloc_k _ ca2); have hs2 := hb2.size; simp only [World.size_alloc] at hs2; have hlt2 : w.heap.size < w2.heap.size := by omega)
  | (gi_at_call 122; refine (pieces37_in F (n - 1) h37 hro _ _ _ x _).mono ?_; rintro e w' ⟨rfl, rfl⟩))
 have bO := ((Boxed.new w2 38 (.slice none 0 0)).alloc (.cells #[.slice a len cap] 38)).alloc (.cells #[.int .i64 x.1, .int .i64 x.2] 134)
 have bS := ((Boxed.new (w2.alloc (.cells #[.slice none 0 0] 38)) 38 (.slice a len cap)).alloc (.cells #[.int .i64 x.1, .int .i64 x.2] 134)).cell
 have bX1 := cell2a ((w2.alloc (.cells #[.slice none 0 0] 38)).alloc (.cells #[.slice a len cap] 38)) (.int .i64 x.1) (.int .i64 x.2) 134
 have bX2 := cell2b ((w2.alloc (.cells #[.slice none 0 0] 38)).alloc (.cells #[.slice a len cap] 38)) (.int .i64 x.1) (.int .i64 x.2) 134
 simp only [World.size_alloc] at bS bX1 bX2
 have hBw : Below w.heap.size w w2 := hbA.trans (hb2.mono hbA.size)
 have hB0 : Below w.heap.size w (((w2.alloc (.cells #[.slice none 0 0] 38)).alloc (.cells #[.slice a len cap] 38)).alloc (.cells #[.int .i64 x.1, .int .i64 x.2] 134)) := ((hBw.alloc (by omega) _).alloc (by simp; omega) _).alloc (by simp; omega) _
 have hsz : (((w2.alloc (.cells #[.slice none 0 0] 38)).alloc (.cells #[.slice a len cap] 38)).alloc (.cells #[.int .i64 x.1, .int .i64 x.2] 134)).heap.size = w2.heap.size + 3 := by simp
 obtain ⟨W0, hW0⟩ : ∃ W0, ((w2.alloc (.cells #[.slice none 0 0] 38)).alloc (.cells #[.slice a len cap] 38)).alloc (.cells #[.int .i64 x.1, .int .i64 x.2] 134) = W0 := ⟨_, rfl⟩
 rw [hW0] at bO bS bX1 bX2 hB0 hsz ⊢
 clear hW0
 have hIW : IvsIn W0.heap.size w2.heap.size W0 (.slice a len cap) zs := by
  rcases hI with ⟨a', c', e, e2⟩ | ⟨b, off, cap', e, hb, h3, h4⟩
  ·exact .inl ⟨a', c', e, e2⟩
  ·exact .inr ⟨b, off, cap', e, ⟨by omega, by omega⟩, fun j y hy => Below.cellv hB0 hb.1 (h3 j y hy), fun j y hy => Below.cellv hB0 hb.1 (h4 j y hy)⟩
 refine wpIn_rangeFunc_ownH hro h1 (gf := 125) (lb := #[.pointer (some ⟨w2.heap.size + 1, 0, none⟩), .pointer (some ⟨w2.heap.size + 1 + 1, 0, none⟩)]) rfl h46 (enters_of Tryz.func125 (by kernel_rfl) rfl)
  (pieces_stops F (n - 1) h46 h31 hro (by omega) (w2.heap.size + 1) (w2.heap.size + 1 + 1) W0.heap.size w2.heap.size x (.slice a len cap) zs (by omega) W0 ⟨by omega, by omega⟩ ⟨by omega, by omega⟩ rfl bS bX1 bX2 hIW)
  (fun h k => KG.trans h k) (fun W l o o' h2 h3 h4 _ => KG.put _ _ o' h3 h4) (Below.refl _ _) (fun _ => rfl)
  (fun pre W => (∃ v, Boxed W w2.heap.size 38 v ∧ W.ownsRow W0.heap.size 134 2 v pre.length (ivsV pre) ∧ True) ∧ (Below w.heap.size w W ∧ W0.heap.size ≤ W.heap.size))
  (fun _ _ _ => False)
  (OwnFrom.and (Own.from (holdsRow_own W0.heap.size w2.heap.size 38 134 2 (fun pre : List (Int × Int) => pre.length) ivsV (fun _ _ => True)) _) (OwnFrom.and (ownFrom_below (Nat.le_refl _) (by omega)) (fun s X Y row hs hg hr => Nat.le_trans hs hg.size)))
  (fun _ _ _ _ _ hs _ _ => hs)
  ⟨⟨_, bO, World.ownsRow_nil _ _ _ _, trivial⟩, hB0, Nat.le_refl _⟩
  (fun y a' W => ∃ By, w2.heap.size < By ∧ W.heap[By]? = some (.cells #[.int .i64 y.1, .int .i64 y.2] 134 (0, 0)) ∧ a' = { tmps := #[.slice a len cap, ivV x, undef, .pointer (some ⟨w.heap.size, 0, none⟩), .slice none 0 0, .pointer (some ⟨w2.heap.size, 0, none⟩), .pointer (some ⟨By, 0, none⟩),
   .agg #[.int .i64 x.1, .int .i64 x.2], .bool true, .bool false, .bool false, .agg #[.int .i64 x.1, .int .i64 x.2], .bool (decide (x.2 ≤ x.1)), .bool (decide (x.2 ≤ x.1)), .bool (decide (x.2 ≤ x.1)), .slice a len cap, .int .i64 0, .bool false, .bool (decide (x.2 ≤ x.1)), undef, undef, .slice a len cap,
   .agg #[.int .i64 x.1, .int .i64 x.2], .func (.func 125) #[] #[.pointer (some ⟨w2.heap.size + 1, 0, none⟩), .pointer (some ⟨w2.heap.size + 1 + 1, 0, none⟩)], ivV y, undef, undef, undef, undef, undef], defers := [] })
  (fun y a' s X Y row hs hg hr => by
   obtain ⟨By, h1, h2, h3⟩ := hs
   refine ⟨By, h1, (hg.block By (Array.getElem?_eq_some_iff.1 h2).1 (fun e' => ?_)).trans h2, h3⟩
   obtain ⟨_, o, ho, hc⟩ := hr By e'.symm
   rw [h2] at ho; cases ho; cases hc)
  ?assign ?body ?done ?stop
 case assign =>
  rintro l pre y W K ⟨⟨v, bO1, hr1, -⟩, hB1, hS1⟩ hK
  gi_wp2
  refine hK _ _ ((KeepsOthers.alloc _ _).from _) ((KG.refl _ _ W).alloc _) ⟨⟨v, bO1.alloc _, hr1.alloc _, trivial⟩, hB1.alloc hB1.size _, by simp; omega⟩ ⟨W.heap.size, by omega, World.alloc_heap_new W _, rfl⟩
 case body =>
  rintro l pre y a' W hl ⟨r, hr⟩ ⟨⟨v, hv, hrow, -⟩, hB1, hS1⟩ ⟨By, hBy, bY, rfl⟩ hlt
  have hc := hv.cell
  have hy1 : W.cell? ⟨By, 0, none⟩ = some (.int .i64 y.1) := by unfold World.cell?; rw [bY]; rfl
  have hy2 : W.cell? ⟨By, 1, none⟩ = some (.int .i64 y.2) := by unfold World.cell?; rw [bY]; rfl
  have hfr := hv.frozen
  gi_wp2_with (gi_at_builtin; refine wpListIn_append_own _ rfl _ _ 38 rfl W0.heap.size 134 i0 (.agg #[.int .i64 0, .int .i64 0]) 2 16 Tryz.underlying38 hi hz0 hz1 hz2 rfl (by decide) _ _ _ rfl (hrow.alloc _) ⟨W.heap.size, 0, none⟩ 1 1 [.int .i64 y.1, .int .i64 y.2] rfl rfl (cell_two_new _ _ _ _) (by simp [Value.oneCell']) (by simp [maxLen]; omega) (by omega) (by simp; omega) ?_; intro v' w1 hown' hgrow _; obtain ⟨g', cap', rfl⟩ := ownsRow_succ hown'; obtain ⟨hv1, hv2, hr2, hk2, hkg, hb2'⟩ := app_kg hv (by decide) hrow hS1 (by omega) hown' hgrow; have hc1 := hv1.cell; have hf1 := hv1.frozen)
  exact ⟨hk2.from _, hkg, ⟨_, hv2, by rw [List.length_append, ivsV_snoc]; exact hr2, trivial⟩, hB1.trans (hb2'.mono (by omega)), Nat.le_trans hS1 hkg.size⟩
 case done =>
  rintro D ys W hD rfl ⟨⟨v, hv, hrow, -⟩, hB1, hS1⟩ hK
  have hc := hv.cell
  gi_wp2
  refine ⟨by simp, .inl ⟨_, _, rfl, run_takeDeferred hK, ?_⟩⟩
  exact ⟨_, results_tmp rfl _ _ _, v, rfl, ownsRow_putObj (ownsRow_base hrow (by omega)) _ hK rfl, hB1.trans (belowK_b (w := w) (Nat.le_refl _) W D _ _ (by omega) hK rfl rfl)⟩
 case stop =>
  rintro D c pre W _ _ h _
  exact h.elim
end Go.Proofs.YtalpfhpeaaocmaaGreat.C06
end
section
namespace Go.Proofs.YtalpfhpeaaocmaaGreat.C06
open Sx Go.RowKit
theorem objs_nil (w : World) : Objs (Oof []) (fun _ => HE.gone) (fun _ => False) w := ⟨fun n => ObjRel.none, fun n m b h1 => by simp [HE.blk] at h1, fun n b h1 => by simp [HE.blk] at h1, fun b hb => hb.elim⟩
theorem oof_gone {β : Nat → HE} {X : Nat → Prop} {w : World} (h : Objs (Oof []) β X w) (o : Nat) : β o = .gone := by
 have := h.rel o
 have e : Oof [] o = .none := rfl
 rw [e] at this
 generalize β o = g at this
 cases this
 rfl
theorem tset_nil {β : Nat → HE} {X : Nat → Prop} {w : World} (h : Objs (Oof []) β X w) (b : Nat) : ¬Tset β b := fun ⟨o, ho⟩ => by
 rw [oof_gone h o] at ho
 cases ho
/-- A contract over no objects, told of plain values. -/
theorem calls_flat {f : FuncId} {args : List AV} {d : D} (h : FnOK Tryz.prog f args [] (.d d) []) (W : World) (vs : Array Value) (hvs : CR (Oof []) (fun _ => HE.gone) (fun _ => False) W args vs) :
  Calls Tryz.prog f vs W fun e W' => ∃ v, e = .returned v ∧ (∃ M, RepD W' M d v) ∧ Below W.heap.size W W' :=
 (h.2 W _ _ vs (objs_nil W) hvs).mono fun e W' ⟨v, β', he, ha, ho, hs⟩ => by
  refine ⟨v, he, ⟨_, ha.d_inv⟩, ⟨hs.evo.os, hs.evo.tape, hs.evo.output, hs.evo.size, fun k hk => hs.evo.block k hk (tset_nil (objs_nil W) k)⟩⟩
theorem ivV_rep (w : World) (M : Nat → Prop) (x : Iv) : RepD w M (ivD x) (ivV x) := by
 refine .agg _ _ rfl (fun d hd => by simp at hd; rcases hd with rfl | rfl <;> rfl) (fun j d hj => ?_)
 match j, hj with
 | 0, hj => cases hj; exact .int _ _
 | 1, hj => cases hj; exact .int _ _
theorem ivV_of {w : World} {M : Nat → Prop} {x : Iv} {v : Value} (h : RepD w M (ivD x) v) : v = ivV x := by
 cases h with
 | agg cs vs hl ho hr =>
  obtain ⟨vs⟩ := vs
  match vs, hl with
  | [a, b], _ =>
   have h0 : a = .int .i64 x.1 := (hr 0 _ rfl).int_inv
   have h1 : b = .int .i64 x.2 := (hr 1 _ rfl).int_inv
   rw [h0, h1]
theorem ivs_cells {w : World} {M : Nat → Prop} {s : List Iv} {v : Value} (h : RepD w M (.sl (s.map ivD)) v) : ∃ a cap, v = .slice a s.length cap ∧ IvsIn w.heap.size w.heap.size w v s := by
 generalize hd : D.sl (s.map ivD) = d at h
 cases h with
 | int | bool | str | agg => cases hd
 | nil a c =>
  injection hd with hd
  have : s = [] := by simpa using hd
  subst this
  exact ⟨a, c, rfl, .inl ⟨a, c, rfl, rfl⟩⟩
 | sl es a c sz f hn hb hM hsz hc hr =>
  injection hd with hd
  subst hd
  rw [List.length_map]
  refine ⟨some a, c, rfl, ?_⟩
  by_cases hs : s = []
  ·subst hs; exact .inl ⟨_, _, rfl, rfl⟩
  ·have hpos := List.length_pos_iff.2 hs
   have hz : sz = 2 := by
    obtain ⟨y, hy⟩ : ∃ y, s[0]? = some y := ⟨_, List.getElem?_eq_getElem hpos⟩
    exact ((hsz (ivD y) (List.mem_map_of_mem (List.mem_of_getElem? hy))).1).symm
   subst hz
   have hsp : a.spot = none := by
    have h0 := hc 0 0 (by rw [List.length_map]; exact hpos) (by omega)
    unfold World.cell? at h0
    simp only [Nat.zero_mul, Nat.zero_add, Addr.add, if_true] at h0
    split at h0
    ·split at h0
     ·cases h0
     ·next hq => simpa using hq
    ·cases h0
   obtain ⟨b, off, sp⟩ := a
   simp only at hsp
   subst hsp
   have hat : ∀ n, (Addr.mk b off none).add n = ⟨b, off + n, none⟩ := add_mk b off
   refine .inr ⟨b, off, c, rfl, ⟨hb, Nat.ne_of_lt hb⟩, fun j y hy => ?_, fun j y hy => ?_⟩
   ·have hj := (List.getElem?_eq_some_iff.1 hy).1
    have h1 := hc j 0 (by rw [List.length_map]; exact hj) (by omega)
    have h2 := hr j 0 (ivD y) _ (by rw [List.getElem?_map, hy]; rfl) rfl
    rw [hat, h2.int_inv] at h1
    exact h1
   ·have hj := (List.getElem?_eq_some_iff.1 hy).1
    have h1 := hc j 1 (by rw [List.length_map]; exact hj) (by omega)
    have h2 := hr j 1 (ivD y) _ (by rw [List.getElem?_map, hy]; rfl) rfl
    rw [hat, h2.int_inv] at h1
    exact h1
theorem ivsV_get : ∀ (l : List Iv) (i : Nat) (y : Iv), l[i]? = some y → (ivsV l)[i * 2]? = some (.int .i64 y.1) ∧ (ivsV l)[i * 2 + 1]? = some (.int .i64 y.2)
 | [], i, y, h => by simp at h
 | z :: l, i, y, h => by
  have e : ivsV (z :: l) = .int .i64 z.1 :: .int .i64 z.2 :: ivsV l := by simp [ivsV]
  rw [e]
  cases i with
  | zero => simp at h; subst h; exact ⟨rfl, rfl⟩
  | succ i =>
   simp only [List.getElem?_cons_succ] at h
   have := ivsV_get l i y h
   rw [show (i + 1) * 2 = i * 2 + 1 + 1 by omega]
   exact this
/-- A row that a call has laid reads as plain data. -/
theorem row_rep {w w' : World} {M : Nat → Prop} {v : Value} {l : List Iv} (h : w'.ownsRow w.heap.size 134 2 v l.length (ivsV l)) (hM : ∀ b, M b → b < w.heap.size) : RepD w' M (.sl (l.map ivD)) v := by
 obtain ⟨h0, h | ⟨g, cap, cur, rfl, hg, hb, hc, hm, hs, ht⟩⟩ := h
 ·have : l = [] := List.length_eq_zero_iff.1 h.2
  subst this
  rw [h.1]
  exact .nil _ _
 ·have hlt : g < w'.heap.size := (Array.getElem?_eq_some_iff.1 hb).1
  have hlen : (l.map ivD).length = l.length := List.length_map ..
  have key : ∀ i j, i < l.length → j < 2 → cur[i * 2 + j]? = some ((ivsV l).getD (i * 2 + j) undef) := fun i j hi hj => by
   have h1 : i * 2 + j < cur.size := by rw [hs]; have : (i + 1) * 2 ≤ cap * 2 := Nat.mul_le_mul_right 2 (by omega); omega
   have h2 : cur.toList[i * 2 + j]? = (ivsV l)[i * 2 + j]? := by
    rw [← ht, List.getElem?_take, if_pos (by omega)]
   have h3 : i * 2 + j < (ivsV l).length := by rw [ivsV_len]; omega
   rw [Array.getElem?_toList] at h2
   rw [h2, List.getD_eq_getElem?_getD, List.getElem?_eq_getElem h3]
   rfl
  have := RepD.sl (w := w') (M := M) (l.map ivD) ⟨g, 0, none⟩ cap 2 (fun i j => (ivsV l).getD (i * 2 + j) undef) (by omega) hlt (fun hm' => Nat.not_lt.2 hg (hM g hm'))
   (fun e he => by
    obtain ⟨y, -, rfl⟩ := List.mem_map.1 he
    exact ⟨rfl, fun d hd => by simp [ivD, D.cells] at hd; rcases hd with rfl | rfl <;> rfl⟩)
   (fun i j hi hj => by
    rw [add_mk]
    unfold World.cell?
    rw [hb]
    show cur[0 + (i * 2 + j)]? = _
    rw [Nat.zero_add]
    exact key i j (by omega) hj)
   (fun i j e d he hd => by
    rw [List.getElem?_map] at he
    cases hy : l[i]? with
    | none => rw [hy] at he; cases he
    | some y =>
     rw [hy] at he
     cases he
     obtain ⟨g1, g2⟩ := ivsV_get l i y hy
     match j, hd with
     | 0, hd =>
      cases hd
      show RepD w' M _ ((ivsV l).getD (i * 2 + 0) undef)
      rw [List.getD_eq_getElem?_getD, Nat.add_zero, g1]
      exact .int _ _
     | 1, hd =>
      cases hd
      show RepD w' M _ ((ivsV l).getD (i * 2 + 1) undef)
      rw [List.getD_eq_getElem?_getD, g2]
      exact .int _ _)
  rw [hlen] at this
  exact this
/-- Cut, where it cuts. -/
theorem cut13y (s : List Iv) (x : Iv) (hx : x.1 < x.2) (hl : s.length < 1000000) (hmay : FnOK Tryz.prog 117 [.d (ivD x)] [] (.d (.bool true)) []) (hchk : FnOK Tryz.prog 102 [.d (.sl (s.map ivD))] [] (.d (.int .i64 0)) []) :
  FnOK Tryz.prog 110 [.d (.sl (s.map ivD)), .d (ivD x)] [] (.d (.sl ((pcs x s).map ivD))) [] := by
 refine ⟨⟨Tryz.f110, Tryz.func110, by kernel_rfl, by kernel_rfl⟩, fun w X β vs hO hvs => ?_⟩
 obtain ⟨hsz, hvs⟩ := hvs
 have r0 := (hvs 0 _ rfl).d_inv
 have r1 := ivV_of (hvs 1 _ rfl).d_inv
 obtain ⟨vs⟩ := vs
 match vs, hsz, r0, r1 with
 | [v0, v1], _, r0, r1 =>
  have r0 : RepD w (Mset X β) (.sl (s.map ivD)) v0 := r0
  have r1 : v1 = ivV x := r1
  subst r1
  obtain ⟨a, cap, rfl, hI⟩ := ivs_cells r0
  have hc := Cut_in Fence.wide 5 trivial trivial trivial trivial trivial trivial rfl (by omega) a s.length cap x hx s hl w
   (fun W => callsIn_wide.2 ((calls_flat hmay W #[ivV x] (CR.one (.d _ _ (ivV_rep _ _ _)))).mono fun e W' ⟨v, he, ⟨M, hr⟩, hb⟩ => ⟨by rw [he, hr.bool_inv], hb⟩))
   (fun W hW => callsIn_wide.2 ((calls_flat hchk W #[.slice a s.length cap] (CR.one (.d _ _ (r0.mono (T := fun _ => False) ⟨hW.os, hW.tape, hW.output, hW.size, fun b hb _ => hW.block b hb⟩ (fun _ hf => hf.elim) (fun b hm => by
    rcases hm with hm | hm
    ·exact hm.elim
    ·obtain ⟨o, ho⟩ := hm; cases ho))))).mono fun e W' ⟨v, he, ⟨M, hr⟩, hb⟩ => ⟨by rw [he, hr.int_inv], hb⟩))
   hI
  refine (callsIn_wide.1 hc).mono fun e W' ⟨v, he, hrow, hb⟩ => ⟨v, β, he, .d _ _ (row_rep hrow fun b hm => ?_), ?_, ?_⟩
  ·rcases hm with hm | hm
   ·exact hO.xlt b hm
   ·exact (tset_nil hO b hm).elim
  ·exact ⟨fun o => (by rw [oof_gone hO o]; exact .none), fun o o' b h1 => (by rw [oof_gone hO o] at h1; cases h1), fun o b h1 => (by rw [oof_gone hO o] at h1; cases h1), fun b hx => Nat.lt_of_lt_of_le (hO.xlt b hx) hb.size⟩
  ·exact ⟨⟨hb.os, hb.tape, hb.output, hb.size, fun b h1 _ => hb.block b h1⟩, fun o ho => absurd rfl ho, fun b h => .inl h⟩
end Go.Proofs.YtalpfhpeaaocmaaGreat.C06
end
section
namespace Go.Proofs.YtalpfhpeaaocmaaGreat.C06
open Sx Go.RowKit
def stA (x : Iv) (p : List Iv × Bool) (y : Iv) : List Iv × Bool := if p.2 = false ∧ x.1 ≤ y.1 then (pPut (pPut p.1 x) y, true) else (pPut p.1 y, p.2)
def pAddF (s : List Iv) (x : Iv) : List Iv × Bool := s.foldl (stA x) ([], false)
def pAdd (s : List Iv) (x : Iv) : List Iv := if (pAddF s x).2 = true then (pAddF s x).1 else pPut (pAddF s x).1 x
theorem pPut_len (l : List Iv) (x : Iv) : (pPut l x).length ≤ l.length + 1 := by
 by_cases h : x.2 ≤ x.1
 ·rw [pPut_none h]; omega
 ·rcases List.eq_nil_or_concat l with rfl | ⟨l, z, rfl⟩
  ·rw [pPut_nil h]; simp
  ·rw [List.concat_eq_append]
   by_cases g : z.2 ≥ x.1
   ·rw [pPut_t h g]; simp
   ·rw [pPut_n h g]; simp
theorem stA_len (x : Iv) (p : List Iv × Bool) (y : Iv) : (stA x p y).1.length ≤ p.1.length + 2 := by
 unfold stA
 split
 ·have := pPut_len (pPut p.1 x) y
  have := pPut_len p.1 x
  show (pPut (pPut p.1 x) y).length ≤ _
  omega
 ·have := pPut_len p.1 y
  show (pPut p.1 y).length ≤ _
  omega
theorem fold_len (x : Iv) : ∀ (s : List Iv) (p : List Iv × Bool), (s.foldl (stA x) p).1.length ≤ p.1.length + 2 * s.length
 | [], p => by simp
 | y :: s, p => by
  have := fold_len x s (stA x p y)
  have := stA_len x p y
  rw [List.foldl_cons, List.length_cons]
  omega
def ivB (x : Iv) : Ob := .box [.d (.int .i64 x.1), .d (.int .i64 x.2)]
def I11 (s : List Iv) (x : Iv) (m : List Iv) (q : Bool) (j : Nat) : St := ⟨[(3, .ptr 0 0), (5, .own 1 2), (6, .d (.bool q)), (23, .d (.sl (s.map ivD))), (24, .d (.int .i64 s.length)), (25, .d (.int .i64 j))], [(0, ivB x), (1, .row 2 (m.map ivD))]⟩
theorem r11a (s : List Iv) (hs : s.length < 400000) (x : Iv) (m : List Iv) (hm : m.length < 900000) (j : Nat) (y : Iv) (hn : s[j]? = some y) (h : x.1 ≤ y.1) : Runs Tryz.prog 0 (loopN Tryz.prog 106 0) (St.as (I11 s x m false j) 51) (.normal) (St.as (I11 s x (pPut (pPut m x) y) true (j+1)) 51) := by
 refine round_wp (p := condP (decide ((↑j : Int) < (↑s.length : Int))) (((0 : Int) ≤ (↑j : Int)) ∧ ((List.map ivD s)[(↑j : Int).toNat]? = some (ivD y)) ∧ (rf (D.bool true)) ∧ (D.bool (decide (x.fst ≤ y.fst)) = D.bool true) ∧ (FnOK Tryz.prog 120 [AV.own 0 2, AV.d (ivD x)] [Ob.row 2 (List.map ivD m)] (AV.own 1 2) [Ob.gone, Ob.row 2 (List.map ivD (pPut m x))]) ∧ (FnOK Tryz.prog 120 [AV.own 0 2, AV.d (ivD y)] [Ob.row 2 (List.map ivD (pPut m x))] (AV.own 1 2) [Ob.gone, Ob.row 2 (List.map ivD (pPut (pPut m x) y))]) ∧ (rf (AV.ptr 0 0)) ∧ (rf (AV.own 1344 2)) ∧ (rf (vB true)) ∧ (rf (vL (List.map ivD s))) ∧ (rf (vI (↑s.length : Int))) ∧ (vI (IntKind.i64.wrap ((↑j : Int) + (1 : Int))) = vI (↑(j + 1) : Int)) ∧ (rf (Ob.box [vI x.fst, vI x.snd])) ∧ (rf (Ob.row 2 (List.map ivD (pPut (pPut m x) y)))) ∧ True) (False)) (h := {els := [(23, .el (ivD y))], H := [(8, [(7, .val (.bool true))]), (9, [(2, .call [1] (.own 1 2) [.gone, .row 2 ((pPut m x).map ivD)])]), (11, [(2, .call [1320] (.own 1 2) [.gone, .row 2 ((pPut (pPut m x) y).map ivD)])])]}) (subs := []) (ws := []) (ρ := []) (by kernel_rfl) ?_
 have hj := get_lt hn
 have hi := inc_i64 (j := j) (by omega)
 have k1 := put33 m (by omega) x
 have k2 := put33 m (by omega) y
 have hl := pPut_len m x
 have k3 := put33 (pPut m x) (by omega) y
 simp only [hi]
 refine condP_t (by rw [decide_eq_true_eq]; omega) ?_
 repeat' (with_reducible first|exact ⟨⟩|apply And.intro|(first|apply zA|apply zB|apply zC|apply zD|apply zE|apply zF|apply zG)<;>intro)
 all_goals first | exact k1 | exact k2 | exact k3 | exact el_map hn rfl | rfl | omega | exact dyes (by omega) | exact dno (by omega) | skip
theorem r11b (s : List Iv) (hs : s.length < 400000) (x : Iv) (m : List Iv) (hm : m.length < 900000) (j : Nat) (y : Iv) (hn : s[j]? = some y) (h : ¬x.1 ≤ y.1) : Runs Tryz.prog 0 (loopN Tryz.prog 106 0) (St.as (I11 s x m false j) 51) (.normal) (St.as (I11 s x (pPut m y) false (j+1)) 51) := by
 refine round_wp (p := condP (decide ((↑j : Int) < (↑s.length : Int))) (((0 : Int) ≤ (↑j : Int)) ∧ ((List.map ivD s)[(↑j : Int).toNat]? = some (ivD y)) ∧ (rf (D.bool true)) ∧ (D.bool (decide (x.fst ≤ y.fst)) = D.bool false) ∧ (FnOK Tryz.prog 120 [AV.own 0 2, AV.d (ivD y)] [Ob.row 2 (List.map ivD m)] (AV.own 1 2) [Ob.gone, Ob.row 2 (List.map ivD (pPut m y))]) ∧ (rf (AV.ptr 0 0)) ∧ (rf (AV.own 1344 2)) ∧ (rf (vB false)) ∧ (rf (vL (List.map ivD s))) ∧ (rf (vI (↑s.length : Int))) ∧ (vI (IntKind.i64.wrap ((↑j : Int) + (1 : Int))) = vI (↑(j + 1) : Int)) ∧ (rf (Ob.box [vI x.fst, vI x.snd])) ∧ (rf (Ob.row 2 (List.map ivD (pPut m y)))) ∧ True) (False)) (h := {els := [(23, .el (ivD y))], H := [(8, [(7, .val (.bool false))]), (11, [(2, .call [1] (.own 1 2) [.gone, .row 2 ((pPut m y).map ivD)])])]}) (subs := []) (ws := []) (ρ := []) (by kernel_rfl) ?_
 have hj := get_lt hn
 have hi := inc_i64 (j := j) (by omega)
 have k1 := put33 m (by omega) x
 have k2 := put33 m (by omega) y
 have hl := pPut_len m x
 have k3 := put33 (pPut m x) (by omega) y
 simp only [hi]
 refine condP_t (by rw [decide_eq_true_eq]; omega) ?_
 repeat' (with_reducible first|exact ⟨⟩|apply And.intro|(first|apply zA|apply zB|apply zC|apply zD|apply zE|apply zF|apply zG)<;>intro)
 all_goals first | exact k1 | exact k2 | exact k3 | exact el_map hn rfl | rfl | omega | exact dyes (by omega) | exact dno (by omega) | skip
theorem r11c (s : List Iv) (hs : s.length < 400000) (x : Iv) (m : List Iv) (hm : m.length < 900000) (j : Nat) (y : Iv) (hn : s[j]? = some y) : Runs Tryz.prog 0 (loopN Tryz.prog 106 0) (St.as (I11 s x m true j) 51) (.normal) (St.as (I11 s x (pPut m y) true (j+1)) 51) := by
 refine round_wp (p := condP (decide ((↑j : Int) < (↑s.length : Int))) (((0 : Int) ≤ (↑j : Int)) ∧ ((List.map ivD s)[(↑j : Int).toNat]? = some (ivD y)) ∧ (rf (D.bool false)) ∧ (FnOK Tryz.prog 120 [AV.own 0 2, AV.d (ivD y)] [Ob.row 2 (List.map ivD m)] (AV.own 1 2) [Ob.gone, Ob.row 2 (List.map ivD (pPut m y))]) ∧ (rf (AV.ptr 0 0)) ∧ (rf (AV.own 1344 2)) ∧ (rf (vB true)) ∧ (rf (vL (List.map ivD s))) ∧ (rf (vI (↑s.length : Int))) ∧ (vI (IntKind.i64.wrap ((↑j : Int) + (1 : Int))) = vI (↑(j + 1) : Int)) ∧ (rf (Ob.box [vI x.fst, vI x.snd])) ∧ (rf (Ob.row 2 (List.map ivD (pPut m y)))) ∧ True) (False)) (h := {els := [(23, .el (ivD y))], H := [(11, [(2, .call [1] (.own 1 2) [.gone, .row 2 ((pPut m y).map ivD)])])]}) (subs := []) (ws := []) (ρ := []) (by kernel_rfl) ?_
 have hj := get_lt hn
 have hi := inc_i64 (j := j) (by omega)
 have k1 := put33 m (by omega) x
 have k2 := put33 m (by omega) y
 have hl := pPut_len m x
 have k3 := put33 (pPut m x) (by omega) y
 simp only [hi]
 refine condP_t (by rw [decide_eq_true_eq]; omega) ?_
 repeat' (with_reducible first|exact ⟨⟩|apply And.intro|(first|apply zA|apply zB|apply zC|apply zD|apply zE|apply zF|apply zG)<;>intro)
 all_goals first | exact k1 | exact k2 | exact k3 | exact el_map hn rfl | rfl | omega | exact dyes (by omega) | exact dno (by omega) | skip
theorem q11 (s : List Iv) (x : Iv) (m : List Iv) (q : Bool) : Runs Tryz.prog 0 (loopN Tryz.prog 106 0) (St.as (I11 s x m q s.length) 51) (.exit 0) (St.as (I11 s x m q s.length) 51) := by
 refine round_wp (p := condP (decide ((↑s.length : Int) < (↑s.length : Int))) (False) ((rf (AV.ptr 0 0)) ∧ (rf (AV.own 1 2)) ∧ (rf (vB q)) ∧ (rf (vL (List.map ivD s))) ∧ (rf (vI (↑s.length : Int))) ∧ (rf (vI (↑s.length : Int))) ∧ (rf (Ob.box [vI x.fst, vI x.snd])) ∧ (rf (Ob.row 2 (List.map ivD m))) ∧ True)) (h := {}) (subs := []) (ws := []) (ρ := []) (by kernel_rfl) ?_
 repeat' (with_reducible first|exact ⟨⟩|apply And.intro|(first|apply zA|apply zB|apply zC|apply zD|apply zE|apply zF|apply zG)<;>intro)
 all_goals first | rfl | omega
/-- Where nothing is done. -/
def nop (s : List Iv) (x : Iv) : Bool := !mayB x || (noneB x || !(iChk s == 0))
theorem add11n (s : List Iv) (hs : s.length < 400000) (x : Iv) (k5 : True) (hL : True) (h : nop s x = true) : FnOK Tryz.prog 106 ([.d (.sl (s.map ivD)), .d (ivD x)]) ([]) (.d (.sl (s.map ivD))) ([]) := by
 refine fnOK_wp (p := condP (!mayB x) ((FnOK Tryz.prog 117 [AV.d (ivD x)] [] (vB (mayB x)) []) ∧ ((D.bool !mayB x) = D.bool true) ∧ (rf (D.bool true)) ∧ (rf (D.bool true)) ∧ (FnOK Tryz.prog 76 [vL (List.map ivD s)] [] (AV.own 0 2) [Ob.row 2 (List.map ivD s)]) ∧ (rf (vL (List.map ivD s))) ∧ True) (condP (noneB x) ((FnOK Tryz.prog 117 [AV.d (ivD x)] [] (vB (mayB x)) []) ∧ ((D.bool !mayB x) = D.bool false) ∧ (FnOK Tryz.prog 118 [AV.d (ivD x)] [] (vB (noneB x)) []) ∧ (D.bool (noneB x) = D.bool true) ∧ (rf (D.bool true)) ∧ (FnOK Tryz.prog 76 [vL (List.map ivD s)] [] (AV.own 0 2) [Ob.row 2 (List.map ivD s)]) ∧ (rf (vL (List.map ivD s))) ∧ True) ((FnOK Tryz.prog 117 [AV.d (ivD x)] [] (vB (mayB x)) []) ∧ ((D.bool !mayB x) = D.bool false) ∧ (FnOK Tryz.prog 118 [AV.d (ivD x)] [] (vB (noneB x)) []) ∧ (D.bool (noneB x) = D.bool false) ∧ (FnOK Tryz.prog 102 [vL (List.map ivD s)] [] (vI (iChk s)) []) ∧ (D.bool (iChk s != (0 : Int)) = D.bool true) ∧ (FnOK Tryz.prog 76 [vL (List.map ivD s)] [] (AV.own 0 2) [Ob.row 2 (List.map ivD s)]) ∧ (rf (vL (List.map ivD s))) ∧ True))) (h := {G := [(117, gAns (.d (.bool (mayB x)))), (118, gAns (.d (.bool (noneB x)))), (102, gAns (.d (.int .i64 (iChk s))))], H := [(1, [(11, .val (.bool true))]), (2, [(1, .call [] (.own 0 2) [.row 2 (s.map ivD)])])]}) (subs := []) (ws := []) (ρ := []) (by kernel_rfl) ?_
 unfold nop at h
 have k1 := may30 x
 have k2 := none31 x
 have k3 := chk19 s (by omega)
 have k4 := ivD_clone s (by omega)
 repeat' (with_reducible first|exact ⟨⟩|apply And.intro|(first|apply zA|apply zB|apply zC|apply zD|apply zE|apply zF|apply zG)<;>intro)
 all_goals first | exact k1 | exact k2 | exact k3 | exact k4 | exact k5 | exact hL | rfl | exact dyes ‹_› | exact dno ‹_› | (refine congrArg D.bool ?_; assumption) | (refine congrArg D.bool ?_; simp_all; done) | (exfalso; simp_all; done) | skip
theorem add11t (s : List Iv) (hs : s.length < 400000) (x : Iv) (h1 : mayB x = true) (h2 : noneB x = false) (h3 : iChk s = 0) (k5 : True) (m : List Iv) (hL : Loops Tryz.prog 0 (loopN Tryz.prog 106 0) ((I11 s x [] false 0).as 51) (.exit 0) ((I11 s x m true s.length).as 51)) : FnOK Tryz.prog 106 ([.d (.sl (s.map ivD)), .d (ivD x)]) ([]) (.d (.sl (m.map ivD))) ([]) := by
 refine fnOK_wp (p := (FnOK Tryz.prog 117 [AV.d (ivD x)] [] (vB true) []) ∧ (rf (D.bool false)) ∧ (FnOK Tryz.prog 118 [AV.d (ivD x)] [] (vB false) []) ∧ (rf (D.bool false)) ∧ (FnOK Tryz.prog 102 [vL (List.map ivD s)] [] (vI 0) []) ∧ (rf (AV.ptr 1024 0)) ∧ (rf (AV.own 901 2)) ∧ (rf (vB false)) ∧ (rf (vL (List.map ivD s))) ∧ (vI (↑(List.map ivD s).length : Int) = vI (↑s.length : Int)) ∧ (rf (vI 0)) ∧ (rf (Ob.box [vI x.fst, vI x.snd])) ∧ (rf (Ob.row 2 [])) ∧ (LoopsS Tryz.prog 0 (loopN Tryz.prog 106 0) (I11 s x [] false 0) (Exit.exit 0) (I11 s x m true s.length) 51) ∧ (rf (vL (List.map ivD m))) ∧ True) (h := {G := [(117, gAns (.d (.bool true))), (118, gAns (.d (.bool false))), (102, gAns (.d (.int .i64 0)))]}) (subs := [⟨[], [], I11 s x [] false 0, .exit 0, I11 s x m true s.length⟩]) (ws := []) (ρ := []) (by kernel_rfl) ?_
 have k1 := may30 x
 have k2 := none31 x
 have k3 := chk19 s (by omega)
 rw [h1] at k1
 rw [h2] at k2
 rw [h3] at k3
 simp only [List.length_map]
 repeat' (with_reducible first|exact ⟨⟩|apply And.intro|(first|apply zA|apply zB|apply zC|apply zD|apply zE|apply zF|apply zG)<;>intro)
 all_goals first | exact k1 | exact k2 | exact k3 | exact k5 | exact hL | rfl | omega | skip
theorem add11f (s : List Iv) (hs : s.length < 400000) (x : Iv) (h1 : mayB x = true) (h2 : noneB x = false) (h3 : iChk s = 0) (m m' : List Iv) (k5 : FnOK Tryz.prog 120 [.own 0 2, .d (ivD x)] [.row 2 (m.map ivD)] (.own 1 2) [.gone, .row 2 (m'.map ivD)]) (hL : Loops Tryz.prog 0 (loopN Tryz.prog 106 0) ((I11 s x [] false 0).as 51) (.exit 0) ((I11 s x m false s.length).as 51)) : FnOK Tryz.prog 106 ([.d (.sl (s.map ivD)), .d (ivD x)]) ([]) (.d (.sl (m'.map ivD))) ([]) := by
 refine fnOK_wp (p := (FnOK Tryz.prog 117 [AV.d (ivD x)] [] (vB true) []) ∧ (rf (D.bool false)) ∧ (FnOK Tryz.prog 118 [AV.d (ivD x)] [] (vB false) []) ∧ (rf (D.bool false)) ∧ (FnOK Tryz.prog 102 [vL (List.map ivD s)] [] (vI 0) []) ∧ (rf (AV.ptr 1024 0)) ∧ (rf (AV.own 901 2)) ∧ (rf (vB false)) ∧ (rf (vL (List.map ivD s))) ∧ (vI (↑(List.map ivD s).length : Int) = vI (↑s.length : Int)) ∧ (rf (vI 0)) ∧ (rf (Ob.box [vI x.fst, vI x.snd])) ∧ (rf (Ob.row 2 [])) ∧ (LoopsS Tryz.prog 0 (loopN Tryz.prog 106 0) (I11 s x [] false 0) (Exit.exit 0) (I11 s x m false s.length) 51) ∧ (FnOK Tryz.prog 120 [AV.own 0 2, AV.d (ivD x)] [Ob.row 2 (List.map ivD m)] (AV.own 1 2) [Ob.gone, Ob.row 2 (List.map ivD m')]) ∧ (rf (vL (List.map ivD m'))) ∧ True) (h := {G := [(117, gAns (.d (.bool true))), (118, gAns (.d (.bool false))), (102, gAns (.d (.int .i64 0)))], H := [(14, [(2, .call [1] (.own 1 2) [.gone, .row 2 (m'.map ivD)])])]}) (subs := [⟨[], [], I11 s x [] false 0, .exit 0, I11 s x m false s.length⟩]) (ws := []) (ρ := []) (by kernel_rfl) ?_
 have k1 := may30 x
 have k2 := none31 x
 have k3 := chk19 s (by omega)
 rw [h1] at k1
 rw [h2] at k2
 rw [h3] at k3
 simp only [List.length_map]
 repeat' (with_reducible first|exact ⟨⟩|apply And.intro|(first|apply zA|apply zB|apply zC|apply zD|apply zE|apply zF|apply zG)<;>intro)
 all_goals first | exact k1 | exact k2 | exact k3 | exact k5 | exact hL | rfl | omega | skip
def rAdd (s : List Iv) (x : Iv) : List Iv := if nop s x = true then s else pAdd s x
theorem nop_no {s : List Iv} {x : Iv} (h : nop s x = false) : mayB x = true ∧ noneB x = false ∧ iChk s = 0 := by
 unfold nop at h
 simp only [Bool.or_eq_false_iff, Bool.not_eq_false', beq_iff_eq] at h
 exact h
theorem add11 (s : List Iv) (hs : s.length < 400000) (x : Iv) : FnOK Tryz.prog 106 [.d (.sl (s.map ivD)), .d (ivD x)] [] (.d (.sl ((rAdd s x).map ivD))) [] := by
 unfold rAdd
 cases hn : nop s x
 ·rw [if_neg (by simp)]
  obtain ⟨h1, h2, h3⟩ := nop_no hn
  have hL : Loops Tryz.prog 0 (loopN Tryz.prog 106 0) ((I11 s x [] false 0).as 51) (.exit 0) ((I11 s x (pAddF s x).1 (pAddF s x).2 s.length).as 51) := by
   have h := loops_n (P := Tryz.prog) (k := 0) (c := loopN Tryz.prog 106 0) (e := .exit 0) (I := fun j => (I11 s x ((s.take j).foldl (stA x) ([], false)).1 ((s.take j).foldl (stA x) ([], false)).2 j).as 51) (by simp) s.length 0 (by omega) (fun j _ hj => ?_) (by simp only [List.take_length]; exact q11 s x (pAddF s x).1 (pAddF s x).2)
   ·exact h
   ·have hn := get_of hj
    have hl := fold_len x (s.take j) ([], false)
    rw [List.length_take] at hl
    simp only [List.length_nil] at hl
    show Runs _ _ _ _ _ ((I11 s x ((s.take (j + 1)).foldl (stA x) ([], false)).1 ((s.take (j + 1)).foldl (stA x) ([], false)).2 (j + 1)).as _)
    rw [take_snoc hn, List.foldl_append]
    show Runs _ _ _ _ _ ((I11 s x (stA x _ _).1 (stA x _ _).2 (j + 1)).as _)
    generalize (s.take j).foldl (stA x) ([], false) = p at *
    obtain ⟨m, q⟩ := p
    unfold stA
    simp only at hl ⊢
    cases q
    ·by_cases g : x.1 ≤ s[j].1
     ·rw [if_pos ⟨rfl, g⟩]; exact r11a s hs x m (by omega) j _ hn g
     ·rw [if_neg (by simp [g])]; exact r11b s hs x m (by omega) j _ hn g
    ·rw [if_neg (by simp)]; exact r11c s hs x m (by omega) j _ hn
  have hl := fold_len x s ([], false)
  simp only [List.length_nil] at hl
  unfold pAdd
  cases hq : (pAddF s x).2
  ·rw [hq] at hL
   rw [if_neg (by simp)]
   exact add11f s hs x h1 h2 h3 _ _ (put33 _ (by show (s.foldl (stA x) ([], false)).1.length < _; omega) x) hL
  ·rw [hq] at hL
   rw [if_pos rfl]
   exact add11t s hs x h1 h2 h3 trivial _ hL
 ·rw [if_pos rfl]; exact add11n s hs x trivial trivial hn
theorem cut13n (s : List Iv) (hs : s.length < 400000) (x : Iv) (k5 : True) (hL : True) (h : nop s x = true) : FnOK Tryz.prog 110 ([.d (.sl (s.map ivD)), .d (ivD x)]) ([]) (.d (.sl (s.map ivD))) ([]) := by
 refine fnOK_wp (p := condP (!mayB x) ((FnOK Tryz.prog 117 [AV.d (ivD x)] [] (vB (mayB x)) []) ∧ ((D.bool !mayB x) = D.bool true) ∧ (rf (D.bool true)) ∧ (rf (D.bool true)) ∧ (FnOK Tryz.prog 76 [vL (List.map ivD s)] [] (AV.own 0 2) [Ob.row 2 (List.map ivD s)]) ∧ (rf (vL (List.map ivD s))) ∧ True) (condP (noneB x) ((FnOK Tryz.prog 117 [AV.d (ivD x)] [] (vB (mayB x)) []) ∧ ((D.bool !mayB x) = D.bool false) ∧ (FnOK Tryz.prog 118 [AV.d (ivD x)] [] (vB (noneB x)) []) ∧ (D.bool (noneB x) = D.bool true) ∧ (rf (D.bool true)) ∧ (FnOK Tryz.prog 76 [vL (List.map ivD s)] [] (AV.own 0 2) [Ob.row 2 (List.map ivD s)]) ∧ (rf (vL (List.map ivD s))) ∧ True) ((FnOK Tryz.prog 117 [AV.d (ivD x)] [] (vB (mayB x)) []) ∧ ((D.bool !mayB x) = D.bool false) ∧ (FnOK Tryz.prog 118 [AV.d (ivD x)] [] (vB (noneB x)) []) ∧ (D.bool (noneB x) = D.bool false) ∧ (FnOK Tryz.prog 102 [vL (List.map ivD s)] [] (vI (iChk s)) []) ∧ (D.bool (iChk s != (0 : Int)) = D.bool true) ∧ (FnOK Tryz.prog 76 [vL (List.map ivD s)] [] (AV.own 0 2) [Ob.row 2 (List.map ivD s)]) ∧ (rf (vL (List.map ivD s))) ∧ True))) (h := {G := [(117, gAns (.d (.bool (mayB x)))), (118, gAns (.d (.bool (noneB x)))), (102, gAns (.d (.int .i64 (iChk s))))], H := [(1, [(11, .val (.bool true))]), (2, [(1, .call [] (.own 0 2) [.row 2 (s.map ivD)])])]}) (subs := []) (ws := []) (ρ := []) (by kernel_rfl) ?_
 unfold nop at h
 have k1 := may30 x
 have k2 := none31 x
 have k3 := chk19 s (by omega)
 have k4 := ivD_clone s (by omega)
 repeat' (with_reducible first|exact ⟨⟩|apply And.intro|(first|apply zA|apply zB|apply zC|apply zD|apply zE|apply zF|apply zG)<;>intro)
 all_goals first | exact k1 | exact k2 | exact k3 | exact k4 | exact k5 | exact hL | rfl | exact dyes ‹_› | exact dno ‹_› | (refine congrArg D.bool ?_; assumption) | (refine congrArg D.bool ?_; simp_all; done) | (exfalso; simp_all; done) | skip
def rCut (s : List Iv) (x : Iv) : List Iv := if nop s x = true then s else pcs x s
theorem cut13 (s : List Iv) (hs : s.length < 400000) (x : Iv) : FnOK Tryz.prog 110 [.d (.sl (s.map ivD)), .d (ivD x)] [] (.d (.sl ((rCut s x).map ivD))) [] := by
 unfold rCut
 cases hn : nop s x
 ·rw [if_neg (by simp)]
  obtain ⟨h1, h2, h3⟩ := nop_no hn
  have k1 := may30 x
  have k3 := chk19 s (by omega)
  rw [h1] at k1
  rw [h3] at k3
  have h2 := of_decide_eq_false h2
  exact cut13y s x (by omega) (by omega) k1 k3
 ·rw [if_pos rfl]; exact cut13n s hs x trivial trivial hn
end Go.Proofs.YtalpfhpeaaocmaaGreat.C06
end
section
namespace Go.Proofs.YtalpfhpeaaocmaaGreat.C06
open Sx Go.RowKit
def inI (n : Int) (y : Iv) : Bool := decide (y.1 ≤ n ∧ n < y.2)
def ivZ : Ob := .box [.d (.int .i64 0), .d (.int .i64 0)]
def I41 (s : List Iv) (n : Int) (j : Nat) : St := ⟨[(1, .d (.int .i64 n)), (4, .ptr 0 0), (8, .d (.sl (s.map ivD))), (9, .d (.int .i64 s.length)), (10, .d (.int .i64 j))], [(0, ivZ)]⟩
def O41 (y : Iv) : St := ⟨[(4, .ptr 0 0), (5, .d (.bool true))], [(0, ivB y)]⟩
theorem r41a (s : List Iv) (hl : s.length < 1000000) (n : Int) (j : Nat) (y : Iv) (hn : s[j]? = some y) (h : ¬y.1 ≤ n) : Runs Tryz.prog 0 (loopN Tryz.prog 121 0) (St.as (I41 s n j) 27) (.normal) (St.as (I41 s n (j+1)) 27) := by
 refine round_wp (p := condP (decide ((↑j : Int) < (↑s.length : Int))) (((0 : Int) ≤ (↑j : Int)) ∧ ((List.map ivD s)[(↑j : Int).toNat]? = some (ivD y)) ∧ (D.bool (decide (y.fst ≤ n)) = D.bool false) ∧ (rf (D.bool false)) ∧ (rf (vI n)) ∧ (rf (AV.ptr 0 0)) ∧ (rf (vL (List.map ivD s))) ∧ (rf (vI (↑s.length : Int))) ∧ (vI (IntKind.i64.wrap ((↑j : Int) + (1 : Int))) = vI (↑(j + 1) : Int)) ∧ (rf (Ob.box [vI 0, vI 0])) ∧ True) (False)) (h := {els := [(8, .el (ivD y))], H := [(4, [(3, .val (.bool false))])]}) (subs := []) (ws := []) (ρ := []) (by kernel_rfl) ?_
 have hj := get_lt hn
 have hi := inc_i64 (j := j) (by omega)
 try simp only [hi]
 refine condP_t (by rw [decide_eq_true_eq]; omega) ?_
 repeat' (with_reducible first|exact ⟨⟩|apply And.intro|(first|apply zA|apply zB|apply zC|apply zD|apply zE|apply zF|apply zG)<;>intro)
 all_goals first | exact el_map hn rfl | rfl | omega | exact dyes (by omega) | exact dno (by omega) | skip
theorem r41b (s : List Iv) (hl : s.length < 1000000) (n : Int) (j : Nat) (y : Iv) (hn : s[j]? = some y) (h : y.1 ≤ n) (h2 : ¬n < y.2) : Runs Tryz.prog 0 (loopN Tryz.prog 121 0) (St.as (I41 s n j) 27) (.normal) (St.as (I41 s n (j+1)) 27) := by
 refine round_wp (p := condP (decide ((↑j : Int) < (↑s.length : Int))) (((0 : Int) ≤ (↑j : Int)) ∧ ((List.map ivD s)[(↑j : Int).toNat]? = some (ivD y)) ∧ (D.bool (decide (y.fst ≤ n)) = D.bool true) ∧ (rf (D.bool true)) ∧ (D.bool (decide (n < y.snd)) = D.bool false) ∧ (rf (vI n)) ∧ (rf (AV.ptr 0 0)) ∧ (rf (vL (List.map ivD s))) ∧ (rf (vI (↑s.length : Int))) ∧ (vI (IntKind.i64.wrap ((↑j : Int) + (1 : Int))) = vI (↑(j + 1) : Int)) ∧ (rf (Ob.box [vI 0, vI 0])) ∧ True) (False)) (h := {els := [(8, .el (ivD y))], H := [(4, [(3, .val (.bool true)), (8, .val (.bool false))])]}) (subs := []) (ws := []) (ρ := []) (by kernel_rfl) ?_
 have hj := get_lt hn
 have hi := inc_i64 (j := j) (by omega)
 try simp only [hi]
 refine condP_t (by rw [decide_eq_true_eq]; omega) ?_
 repeat' (with_reducible first|exact ⟨⟩|apply And.intro|(first|apply zA|apply zB|apply zC|apply zD|apply zE|apply zF|apply zG)<;>intro)
 all_goals first | exact el_map hn rfl | rfl | omega | exact dyes (by omega) | exact dno (by omega) | skip
theorem e41 (s : List Iv) (hl : s.length < 1000000) (n : Int) (j : Nat) (y : Iv) (hn : s[j]? = some y) (h : y.1 ≤ n) (h2 : n < y.2) : Runs Tryz.prog 0 (loopN Tryz.prog 121 0) (St.as (I41 s n j) 27) (.ret) (St.as (O41 y) 27) := by
 refine round_wp (p := condP (decide ((↑j : Int) < (↑s.length : Int))) (((0 : Int) ≤ (↑j : Int)) ∧ ((List.map ivD s)[(↑j : Int).toNat]? = some (ivD y)) ∧ (D.bool (decide (y.fst ≤ n)) = D.bool true) ∧ (rf (D.bool true)) ∧ (D.bool (decide (n < y.snd)) = D.bool true) ∧ (rf (AV.ptr 0 0)) ∧ (rf (vB true)) ∧ (rf (Ob.box [vI y.fst, vI y.snd])) ∧ True) (False)) (h := {els := [(8, .el (ivD y))], H := [(4, [(3, .val (.bool true)), (8, .val (.bool true))])]}) (subs := []) (ws := []) (ρ := []) (by kernel_rfl) ?_
 have hj := get_lt hn
 have hi := inc_i64 (j := j) (by omega)
 try simp only [hi]
 refine condP_t (by rw [decide_eq_true_eq]; omega) ?_
 repeat' (with_reducible first|exact ⟨⟩|apply And.intro|(first|apply zA|apply zB|apply zC|apply zD|apply zE|apply zF|apply zG)<;>intro)
 all_goals first | exact el_map hn rfl | rfl | omega | exact dyes (by omega) | exact dno (by omega) | skip
theorem q41 (s : List Iv) (n : Int) : Runs Tryz.prog 0 (loopN Tryz.prog 121 0) (St.as (I41 s n s.length) 27) (.exit 0) (St.as (I41 s n s.length) 27) := by
 refine round_wp (p := condP (decide ((↑s.length : Int) < (↑s.length : Int))) (False) ((rf (vI n)) ∧ (rf (AV.ptr 0 0)) ∧ (rf (vL (List.map ivD s))) ∧ (rf (vI (↑s.length : Int))) ∧ (rf (vI (↑s.length : Int))) ∧ (rf (Ob.box [vI 0, vI 0])) ∧ True)) (h := {}) (subs := []) (ws := []) (ρ := []) (by kernel_rfl) ?_
 repeat' (with_reducible first|exact ⟨⟩|apply And.intro|(first|apply zA|apply zB|apply zC|apply zD|apply zE|apply zF|apply zG)<;>intro)
 all_goals first | rfl | omega
theorem find41n (s : List Iv) (n : Int) (hL : Loops Tryz.prog 0 (loopN Tryz.prog 121 0) ((I41 s n 0).as 27) (.exit 0) ((I41 s n s.length).as 27)) : FnOK Tryz.prog 121 ([.d (.sl (s.map ivD)), .d (.int .i64 n)]) ([]) (.tup [.d (ivD (0, 0)), .d (.bool false)]) ([]) := by
 refine fnOK_wp (p := (rf (vI n)) ∧ (rf (AV.ptr 1032 0)) ∧ (rf (vL (List.map ivD s))) ∧ (vI (↑(List.map ivD s).length : Int) = vI (↑s.length : Int)) ∧ (rf (vI 0)) ∧ (rf (Ob.box [vI 0, vI 0])) ∧ (LoopsS Tryz.prog 0 (loopN Tryz.prog 121 0) (I41 s n 0) (Exit.exit 0) (I41 s n s.length) 27) ∧ (rf (AV.tup [AV.d (.agg [D.int .i64 0, D.int .i64 0]), vB false])) ∧ True) (h := {}) (subs := [⟨[], [], I41 s n 0, .exit 0, I41 s n s.length⟩]) (ws := []) (ρ := []) (by kernel_rfl) ?_
 simp only [List.length_map]
 repeat' (with_reducible first|exact ⟨⟩|apply And.intro|(first|apply zA|apply zB|apply zC|apply zD|apply zE|apply zF|apply zG)<;>intro)
 all_goals first | exact hL | rfl | skip
theorem find41y (s : List Iv) (n : Int) (y : Iv) (hL : Loops Tryz.prog 0 (loopN Tryz.prog 121 0) ((I41 s n 0).as 27) .ret ((O41 y).as 27)) : FnOK Tryz.prog 121 ([.d (.sl (s.map ivD)), .d (.int .i64 n)]) ([]) (.tup [.d (ivD y), .d (.bool true)]) ([]) := by
 refine fnOK_wp (p := (rf (vI n)) ∧ (rf (AV.ptr 1032 0)) ∧ (rf (vL (List.map ivD s))) ∧ (vI (↑(List.map ivD s).length : Int) = vI (↑s.length : Int)) ∧ (rf (vI 0)) ∧ (rf (Ob.box [vI 0, vI 0])) ∧ (LoopsS Tryz.prog 0 (loopN Tryz.prog 121 0) (I41 s n 0) Exit.ret (O41 y) 27) ∧ (rf (AV.tup [AV.d (ivD y), vB true])) ∧ True) (h := {}) (subs := [⟨[], [], I41 s n 0, .ret, O41 y⟩]) (ws := []) (ρ := []) (by kernel_rfl) ?_
 simp only [List.length_map]
 repeat' (with_reducible first|exact ⟨⟩|apply And.intro|(first|apply zA|apply zB|apply zC|apply zD|apply zE|apply zF|apply zG)<;>intro)
 all_goals first | exact hL | rfl | skip
/-- The one found, or nought; whether one was. -/
def fnd (s : List Iv) (n : Int) : Iv × Bool := match s.find? (inI n) with | some y => (y, true) | none => ((0, 0), false)
theorem find_first (p : Iv → Bool) : ∀ (s : List Iv) (m : Nat) (y : Iv), s[m]? = some y → p y = true → (∀ j z, j < m → s[j]? = some z → p z = false) → s.find? p = some y
 | [], m, y, h, _, _ => by simp at h
 | z :: s, 0, y, h, hp, _ => by simp at h; subst h; rw [List.find?_cons_of_pos hp]
 | z :: s, m + 1, y, h, hp, hf => by
  have hz := hf 0 z (by omega) rfl
  rw [List.find?_cons_of_neg (by rw [hz]; simp)]
  exact find_first p s m y (by simpa using h) hp fun j w hj hw => hf (j + 1) w (by omega) (by simpa using hw)
theorem find41 (s : List Iv) (hl : s.length < 1000000) (n : Int) : FnOK Tryz.prog 121 [.d (.sl (s.map ivD)), .d (.int .i64 n)] [] (.tup [.d (ivD (fnd s n).1), .d (.bool (fnd s n).2)]) [] := by
 have step : ∀ (j : Nat) (y : Iv), s[j]? = some y → inI n y = false → Runs Tryz.prog 0 (loopN Tryz.prog 121 0) ((I41 s n j).as 27) .normal ((I41 s n (j + 1)).as 27) := fun j y hn hx => by
  have hx := of_decide_eq_false hx
  by_cases h : y.1 ≤ n
  ·exact r41b s hl n j y hn h (by omega)
  ·exact r41a s hl n j y hn h
 unfold fnd
 rcases all_or (fun y => inI n y = false) s with h | ⟨m, y, h1, h2, h3⟩
 ·have e : s.find? (inI n) = none := by rw [List.find?_eq_none]; intro y hy; rw [h y hy]; simp
  rw [e]
  exact find41n s n (loops_n (I := fun j => (I41 s n j).as 27) (by simp) s.length 0 (by omega) (fun j _ hj => step j _ (get_of hj) (h _ (List.getElem_mem hj))) (q41 s n))
 ·have hm := get_lt h1
  have h2 : inI n y = true := by cases g : inI n y; exact absurd g h2; rfl
  rw [find_first (inI n) s m y h1 h2 h3]
  have h4 := of_decide_eq_true h2
  exact find41y s n y (loops_n (I := fun j => (I41 s n j).as 27) (by simp) m 0 (by omega) (fun j _ hj => step j (s[j]'(by omega)) (get_of _) (h3 j _ hj (get_of _))) (e41 s hl n m y h1 h4.1 h4.2))
theorem first28y (s : List Iv) (n m : Int) (hm : max n 0 = m) (y : Iv) (k2 : True) (k1 : FnOK Tryz.prog 121 [.d (.sl (s.map ivD)), .d (.int .i64 m)] [] (.tup [.d (ivD y), .d (.bool true)]) []) : FnOK Tryz.prog 109 ([.d (.sl (s.map ivD)), .d (.int .i64 n)]) ([]) (.d (.int .i64 y.2)) ([]) := by
 refine fnOK_wp (p := (D.int .i64 (max n (0 : Int)) = D.int .i64 m) ∧ (FnOK Tryz.prog 121 [vL (List.map ivD s), vI m] [] (AV.tup [AV.d (ivD y), vB true]) []) ∧ (rf (vI y.snd)) ∧ True) (h := {H := [(1, [(1, .val (.int .i64 m))])], G := [(121, gAns (.tup [.d (ivD y), .d (.bool true)]))]}) (subs := []) (ws := []) (ρ := []) (by kernel_rfl) ?_
 repeat' (with_reducible first|exact ⟨⟩|apply And.intro|(first|apply zA|apply zB|apply zC|apply zD|apply zE|apply zF|apply zG)<;>intro)
 all_goals first | exact k1 | rfl | exact congrArg (D.int .i64) hm | skip
theorem first28n (s : List Iv) (n m : Int) (hm : max n 0 = m) (y : Iv) (k2 : True) (k1 : FnOK Tryz.prog 121 [.d (.sl (s.map ivD)), .d (.int .i64 m)] [] (.tup [.d (ivD y), .d (.bool false)]) []) : FnOK Tryz.prog 109 ([.d (.sl (s.map ivD)), .d (.int .i64 n)]) ([]) (.d (.int .i64 m)) ([]) := by
 refine fnOK_wp (p := (D.int .i64 (max n (0 : Int)) = D.int .i64 m) ∧ (FnOK Tryz.prog 121 [vL (List.map ivD s), vI m] [] (AV.tup [AV.d (ivD y), vB false]) []) ∧ (rf (vI m)) ∧ True) (h := {H := [(1, [(1, .val (.int .i64 m))])], G := [(121, gAns (.tup [.d (ivD y), .d (.bool false)]))]}) (subs := []) (ws := []) (ρ := []) (by kernel_rfl) ?_
 repeat' (with_reducible first|exact ⟨⟩|apply And.intro|(first|apply zA|apply zB|apply zC|apply zD|apply zE|apply zF|apply zG)<;>intro)
 all_goals first | exact k1 | rfl | exact congrArg (D.int .i64) hm | skip
theorem same23 (a b : List Iv) (q : Bool) (k1 : FnOK Tryz.prog 97 [.d (.sl (a.map ivD)), .d (.sl (b.map ivD))] [] (.d (.bool q)) []) : FnOK Tryz.prog 68 ([.d (.sl (a.map ivD)), .d (.sl (b.map ivD))]) ([]) (.d (.bool q)) ([]) := by
 refine fnOK_wp (p := (FnOK Tryz.prog 97 [vL (List.map ivD a), vL (List.map ivD b)] [] (vB q) []) ∧ (rf (vB q)) ∧ True) (h := {H := [(1, [(2, .call [] (.d (.bool q)) [])])]}) (subs := []) (ws := []) (ρ := []) (by kernel_rfl) ?_
 exact ⟨k1, rfl, trivial⟩
def rHas (s : List Iv) (n : Int) : Bool := (fnd s n).2
def rFirst (s : List Iv) (n : Int) : Int := if (fnd s (max n 0)).2 = true then (fnd s (max n 0)).1.2 else max n 0
theorem rHas_eq (s : List Iv) (n : Int) : rHas s n = has s n := by
 unfold rHas fnd
 cases h : s.find? (inI n) with
 | none =>
  rw [List.find?_eq_none] at h
  symm
  show s.any (inI n) = false
  rw [List.any_eq_false]
  exact h
 | some y =>
  symm
  show s.any (inI n) = true
  exact List.any_eq_true.2 ⟨y, List.mem_of_find?_eq_some h, List.find?_some h⟩
theorem first28 (s : List Iv) (hl : s.length < 1000000) (n : Int) : FnOK Tryz.prog 109 [.d (.sl (s.map ivD)), .d (.int .i64 n)] [] (.d (.int .i64 (rFirst s n))) [] := by
 have k := find41 s hl (max n 0)
 unfold rFirst
 cases hq : (fnd s (max n 0)).2
 ·rw [hq] at k
  rw [if_neg (by simp)]
  exact first28n s n _ rfl _ trivial k
 ·rw [hq] at k
  rw [if_pos rfl]
  exact first28y s n _ rfl _ trivial k
def cnt : List Iv → Int
 | [] => 0
 | x :: l => (x.2 - x.1) + cnt l
theorem cnt_append (l m : List Iv) : cnt (l ++ m) = cnt l + cnt m := by
 induction l with
 | nil => simp [cnt]
 | cons x l ih => rw [List.cons_append, cnt, cnt, ih]; omega
theorem cnt_bd : ∀ {l : List Iv} {e M : Int}, Srt e l → (∀ x ∈ l, x.2 ≤ M) → e ≤ M → 0 ≤ cnt l ∧ cnt l ≤ M - e
 | [], e, M, _, _, he => by unfold cnt; omega
 | x :: l, e, M, h, hM, he => by
  have h1 := h.1
  have h2 := hM x (by simp)
  have := cnt_bd h.2 (fun y hy => hM y (List.mem_cons_of_mem _ hy)) h2
  unfold cnt
  omega
theorem srt_take : ∀ {l : List Iv} {e : Int} (j : Nat), Srt e l → Srt e (l.take j)
 | _, _, 0, _ => trivial
 | [], e, j + 1, h => by simpa using h
 | x :: l, e, j + 1, h => ⟨h.1, srt_take j h.2⟩
def I21 (s : List Iv) (n : Int) (j : Nat) : St := ⟨[(3, .d (.int .i64 n)), (9, .d (.sl (s.map ivD))), (10, .d (.int .i64 s.length)), (11, .d (.int .i64 j))], []⟩
theorem r21 (s : List Iv) (hl : s.length < 1000000) (n : Int) (j : Nat) (y : Iv) (hn : s[j]? = some y) (h1 : IntKind.i64.wrap (y.2 - y.1) = y.2 - y.1) (h2 : IntKind.i64.wrap (n + (y.2 - y.1)) = n + (y.2 - y.1)) : Runs Tryz.prog 0 (loopN Tryz.prog 107 0) (St.as (I21 s n j) 24) (.normal) (St.as (I21 s (n + (y.2 - y.1)) (j+1)) 24) := by
 refine round_wp (p := condP (decide ((↑j : Int) < (↑s.length : Int))) (((0 : Int) ≤ (↑j : Int)) ∧ ((List.map ivD s)[(↑j : Int).toNat]? = some (ivD y)) ∧ (vI (IntKind.i64.wrap (n + IntKind.i64.wrap (y.snd - y.fst))) = vI (n + (y.snd - y.fst))) ∧ (rf (vL (List.map ivD s))) ∧ (rf (vI (↑s.length : Int))) ∧ (vI (IntKind.i64.wrap ((↑j : Int) + (1 : Int))) = vI (↑(j + 1) : Int)) ∧ True) (False)) (h := {els := [(9, .el (ivD y))]}) (subs := []) (ws := []) (ρ := []) (by kernel_rfl) ?_
 have hj := get_lt hn
 have hi := inc_i64 (j := j) (by omega)
 simp only [hi, h1, h2]
 refine condP_t (by rw [decide_eq_true_eq]; omega) ?_
 repeat' (with_reducible first|exact ⟨⟩|apply And.intro|(first|apply zA|apply zB|apply zC|apply zD|apply zE|apply zF|apply zG)<;>intro)
 all_goals first | exact el_map hn rfl | rfl | omega | skip
theorem q21 (s : List Iv) (n : Int) : Runs Tryz.prog 0 (loopN Tryz.prog 107 0) (St.as (I21 s n s.length) 24) (.exit 0) (St.as (I21 s n s.length) 24) := by
 refine round_wp (p := condP (decide ((↑s.length : Int) < (↑s.length : Int))) (False) ((rf (vI n)) ∧ (rf (vL (List.map ivD s))) ∧ (rf (vI (↑s.length : Int))) ∧ (rf (vI (↑s.length : Int))) ∧ True)) (h := {}) (subs := []) (ws := []) (ρ := []) (by kernel_rfl) ?_
 repeat' (with_reducible first|exact ⟨⟩|apply And.intro|(first|apply zA|apply zB|apply zC|apply zD|apply zE|apply zF|apply zG)<;>intro)
 all_goals first | rfl | omega
theorem cnt21n (s : List Iv) (e : Int) (he : e ≠ 0) (k1 : FnOK Tryz.prog 102 [.d (.sl (s.map ivD))] [] (.d (.int .i64 e)) []) : FnOK Tryz.prog 107 ([.d (.sl (s.map ivD))]) ([]) (.d (.int .i64 0)) ([]) := by
 refine fnOK_wp (p := (FnOK Tryz.prog 102 [vL (List.map ivD s)] [] (vI e) []) ∧ (D.bool (e != (0 : Int)) = D.bool true) ∧ (rf (vI 0)) ∧ True) (h := {H := [(1, [(2, .val (.bool true))])], G := [(102, gAns (.d (.int .i64 e)))]}) (subs := []) (ws := []) (ρ := []) (by kernel_rfl) ?_
 repeat' (with_reducible first|exact ⟨⟩|apply And.intro|(first|apply zA|apply zB|apply zC|apply zD|apply zE|apply zF|apply zG)<;>intro)
 all_goals first | exact k1 | rfl | (refine congrArg D.bool ?_; simpa using he) | skip
theorem cnt21y (s : List Iv) (n : Int) (k1 : FnOK Tryz.prog 102 [.d (.sl (s.map ivD))] [] (.d (.int .i64 0)) []) (hL : Loops Tryz.prog 0 (loopN Tryz.prog 107 0) ((I21 s 0 0).as 24) (.exit 0) ((I21 s n s.length).as 24)) : FnOK Tryz.prog 107 ([.d (.sl (s.map ivD))]) ([]) (.d (.int .i64 n)) ([]) := by
 refine fnOK_wp (p := (FnOK Tryz.prog 102 [vL (List.map ivD s)] [] (vI 0) []) ∧ (rf (vI 0)) ∧ (rf (vL (List.map ivD s))) ∧ (vI (↑(List.map ivD s).length : Int) = vI (↑s.length : Int)) ∧ (rf (vI 0)) ∧ (LoopsS Tryz.prog 0 (loopN Tryz.prog 107 0) (I21 s (0 : Int) 0) (Exit.exit 0) (I21 s n s.length) 24) ∧ (rf (vI n)) ∧ True) (h := {G := [(102, gAns (.d (.int .i64 0)))]}) (subs := [⟨[], [], I21 s 0 0, .exit 0, I21 s n s.length⟩]) (ws := []) (ρ := []) (by kernel_rfl) ?_
 simp only [List.length_map]
 repeat' (with_reducible first|exact ⟨⟩|apply And.intro|(first|apply zA|apply zB|apply zC|apply zD|apply zE|apply zF|apply zG)<;>intro)
 all_goals first | exact k1 | exact hL | rfl | skip
def rCount (s : List Iv) : Int := if iChk s = 0 then cnt s else 0
theorem count21 (s : List Iv) (hl : s.length < 1000000) : FnOK Tryz.prog 107 [.d (.sl (s.map ivD))] [] (.d (.int .i64 (rCount s))) [] := by
 have k1 := chk19 s hl
 unfold rCount
 by_cases h : iChk s = 0
 ·rw [if_pos h]
  rw [h] at k1
  have ok := iChk_iff.1 h
  have hb : ∀ j, 0 ≤ cnt (s.take j) ∧ cnt (s.take j) ≤ 4611686018427387903 - (-1) := fun j => cnt_bd (srt_take j ok.srt) (fun x hx => ok.up x (List.mem_of_mem_take hx)) (by omega)
  have hL := loops_n (P := Tryz.prog) (k := 0) (c := loopN Tryz.prog 107 0) (e := .exit 0) (I := fun j => (I21 s (cnt (s.take j)) j).as 24) (by simp) s.length 0 (by omega) (fun j _ hj => by
   have hn := get_of hj
   have hm := srt_mem ok.srt _ (get_mem hn)
   have hu := ok.up _ (get_mem hn)
   have b1 := hb j
   have b2 := hb (j + 1)
   have e : cnt (s.take (j + 1)) = cnt (s.take j) + (s[j].2 - s[j].1) := by rw [take_snoc hn, cnt_append]; simp [cnt]
   show Runs _ _ _ _ _ ((I21 s (cnt (s.take (j + 1))) (j + 1)).as _)
   rw [e]
   rw [e] at b2
   exact r21 s hl _ j _ hn (by rw [IntKind.wrap_i64]; omega) (by rw [IntKind.wrap_i64]; omega)) (by simp only [List.take_length]; exact q21 s (cnt s))
  exact cnt21y s _ k1 hL
 ·rw [if_neg h]; exact cnt21n s _ h k1
end Go.Proofs.YtalpfhpeaaocmaaGreat.C06
end
section
namespace Go.Proofs.YtalpfhpeaaocmaaGreat.C06
open Sx Go.RowKit
theorem pcs_cons (x y : Iv) (l : List Iv) : pcs x (y :: l) = pc1 x y ++ pcs x l := by simp [pcs]
theorem pc1_eq (x y : Iv) : pc1 x y = (if min y.2 x.1 ≤ y.1 then [] else [(y.1, min y.2 x.1)]) ++ (if y.2 ≤ max y.1 x.2 then [] else [(max y.1 x.2, y.2)]) := by
 unfold pc1
 by_cases h1 : min y.2 x.1 ≤ y.1 <;> by_cases h2 : y.2 ≤ max y.1 x.2 <;> simp [h1, h2]
theorem pcs_ok {x : Iv} (hx : x.1 < x.2) {M : Int} : ∀ {l : List Iv} {e : Int}, Srt e l → (∀ y ∈ l, y.2 ≤ M) → Srt e (pcs x l) ∧ (∀ y ∈ pcs x l, y.2 ≤ M) ∧ (∀ n, has (pcs x l) n = (has l n && !decide (x.1 ≤ n ∧ n < x.2))) ∧
  (pcs x l).length ≤ l.length + 1 ∧ (x.2 ≤ e + 1 → (pcs x l).length ≤ l.length)
 | [], e, _, _ => ⟨trivial, (fun y h => by cases h), (fun n => rfl), Nat.zero_le _, fun _ => Nat.zero_le _⟩
 | y :: l, e, h, hM => by
  obtain ⟨⟨h1, h2⟩, h3⟩ := h
  obtain ⟨i1, i2, i3, i4, i5⟩ := pcs_ok hx h3 (fun z hz => hM z (List.mem_cons_of_mem _ hz))
  have hy := hM y (by simp)
  rw [pcs_cons, pc1_eq]
  have hin : ∀ n, has ((if min y.2 x.1 ≤ y.1 then [] else [(y.1, min y.2 x.1)]) ++ (if y.2 ≤ max y.1 x.2 then [] else [(max y.1 x.2, y.2)]) ++ pcs x l) n = (has (y :: l) n && !decide (x.1 ≤ n ∧ n < x.2)) := fun n => by
   rw [has_append, has_append, i3, has_cons]
   have e1 : has (if min y.2 x.1 ≤ y.1 then [] else [(y.1, min y.2 x.1)]) n = decide (y.1 ≤ n ∧ n < min y.2 x.1) := by
    by_cases g : min y.2 x.1 ≤ y.1
    ·rw [if_pos g]; symm; exact decide_eq_false (by omega)
    ·rw [if_neg g]; simp [has]
   have e2 : has (if y.2 ≤ max y.1 x.2 then [] else [(max y.1 x.2, y.2)]) n = decide (max y.1 x.2 ≤ n ∧ n < y.2) := by
    by_cases g : y.2 ≤ max y.1 x.2
    ·rw [if_pos g]; symm; exact decide_eq_false (by omega)
    ·rw [if_neg g]; simp [has]
   rw [e1, e2]
   by_cases a1 : x.1 ≤ n ∧ n < x.2
   ·rw [decide_eq_true a1, decide_eq_false (p := y.1 ≤ n ∧ n < min y.2 x.1) (by omega), decide_eq_false (p := max y.1 x.2 ≤ n ∧ n < y.2) (by omega)]
    simp
   ·rw [decide_eq_false a1]
    by_cases a2 : y.1 ≤ n ∧ n < y.2
    ·rw [decide_eq_true a2]
     by_cases a3 : n < x.1
     ·rw [decide_eq_true (p := y.1 ≤ n ∧ n < min y.2 x.1) (by omega)]; simp
     ·rw [decide_eq_true (p := max y.1 x.2 ≤ n ∧ n < y.2) (by omega)]; simp
    ·rw [decide_eq_false a2, decide_eq_false (p := y.1 ≤ n ∧ n < min y.2 x.1) (by omega), decide_eq_false (p := max y.1 x.2 ≤ n ∧ n < y.2) (by omega)]
     simp
  by_cases g1 : min y.2 x.1 ≤ y.1 <;> by_cases g2 : y.2 ≤ max y.1 x.2
  ·simp only [g1, g2, if_true, List.nil_append] at hin ⊢
   refine ⟨srt_up (by omega) i1, i2, hin, by rw [List.length_cons]; omega, fun g => ?_⟩
   have := i5 (by omega)
   rw [List.length_cons]; omega
  ·simp only [g1, g2, if_true, if_false, List.nil_append, List.singleton_append] at hin ⊢
   refine ⟨⟨⟨by show e < max y.1 x.2; omega, by show max y.1 x.2 < y.2; omega⟩, i1⟩, fun z hz => ?_, hin, ?_, fun g => ?_⟩
   ·rcases List.mem_cons.1 hz with rfl | hz
    ·exact hy
    ·exact i2 z hz
   ·rw [List.length_cons, List.length_cons]; omega
   ·have := i5 (by omega)
    rw [List.length_cons, List.length_cons]; omega
  ·simp only [g1, g2, if_true, if_false, List.append_nil, List.singleton_append] at hin ⊢
   refine ⟨⟨⟨h1, by show y.1 < min y.2 x.1; omega⟩, srt_up (by show min y.2 x.1 ≤ y.2; omega) i1⟩, fun z hz => ?_, hin, ?_, fun g => ?_⟩
   ·rcases List.mem_cons.1 hz with rfl | hz
    ·show min y.2 x.1 ≤ M; omega
    ·exact i2 z hz
   ·rw [List.length_cons, List.length_cons]; omega
   ·have : (pcs x l).length ≤ l.length := i5 (by omega)
    rw [List.length_cons, List.length_cons]; omega
  ·simp only [g1, g2, if_false, List.cons_append, List.nil_append] at hin ⊢
   have i6 := i5 (by omega)
   refine ⟨⟨⟨h1, by show y.1 < min y.2 x.1; omega⟩, ⟨by show min y.2 x.1 < max y.1 x.2; omega, by show max y.1 x.2 < y.2; omega⟩, i1⟩, fun z hz => ?_, hin, ?_, fun g => ?_⟩
   ·rcases List.mem_cons.1 hz with rfl | hz
    ·show min y.2 x.1 ≤ M; omega
    ·rcases List.mem_cons.1 hz with rfl | hz
     ·exact hy
     ·exact i2 z hz
   ·simp only [List.length_cons]; omega
   ·omega
theorem cut_ok {s : List Iv} (h : Ok s) {x : Iv} (hm : mayB x = true) (hn : noneB x = false) : Ok (rCut s x) ∧ (∀ n, has (rCut s x) n = (has s n && !decide (x.1 ≤ n ∧ n < x.2))) ∧ (rCut s x).length ≤ s.length + 1 := by
 have h2 := of_decide_eq_false hn
 obtain ⟨i1, i2, i3, i4, -⟩ := pcs_ok (x := x) (by omega) h.srt h.up
 have e : rCut s x = pcs x s := by
  unfold rCut nop
  rw [hm, hn, iChk_iff.2 h]
  rfl
 rw [e]
 exact ⟨⟨i1, i2⟩, i3, i4⟩
theorem ok_may {s : List Iv} (h : Ok s) {x : Iv} (hx : x ∈ s) : mayB x = true ∧ noneB x = false := by
 have h1 := srt_mem h.srt x hx
 have h2 := h.up x hx
 exact ⟨mayB_iff.2 ⟨⟨by omega, by omega⟩, by omega, h2⟩, decide_eq_false (by omega)⟩
def I15 (s : List Iv) (o : List Iv) (j : Nat) : St := ⟨[(5, .d (.sl (o.map ivD))), (22, .d (.sl (s.map ivD))), (23, .d (.int .i64 s.length)), (24, .d (.int .i64 j))], []⟩
theorem r15 (s : List Iv) (hl : s.length < 1000000) (o o' : List Iv) (j : Nat) (y : Iv) (hn : s[j]? = some y) (k1 : FnOK Tryz.prog 110 [.d (.sl (o.map ivD)), .d (ivD y)] [] (.d (.sl (o'.map ivD))) []) : Runs Tryz.prog 0 (loopN Tryz.prog 103 0) (St.as (I15 s o j) 33) (.normal) (St.as (I15 s o' (j+1)) 33) := by
 refine round_wp (p := condP (decide ((↑j : Int) < (↑s.length : Int))) (((0 : Int) ≤ (↑j : Int)) ∧ ((List.map ivD s)[(↑j : Int).toNat]? = some (ivD y)) ∧ (FnOK Tryz.prog 110 [vL (List.map ivD o), AV.d (ivD y)] [] (vL (List.map ivD o')) []) ∧ (rf (vL (List.map ivD o'))) ∧ (rf (vL (List.map ivD s))) ∧ (rf (vI (↑s.length : Int))) ∧ (vI (IntKind.i64.wrap ((↑j : Int) + (1 : Int))) = vI (↑(j + 1) : Int)) ∧ True) (False)) (h := {els := [(22, .el (ivD y))], G := [(110, gAns (.d (.sl (o'.map ivD))))]}) (subs := []) (ws := []) (ρ := []) (by kernel_rfl) ?_
 have hj := get_lt hn
 have hi := inc_i64 (j := j) (by omega)
 simp only [hi]
 refine condP_t (by rw [decide_eq_true_eq]; omega) ?_
 repeat' (with_reducible first|exact ⟨⟩|apply And.intro|(first|apply zA|apply zB|apply zC|apply zD|apply zE|apply zF|apply zG)<;>intro)
 all_goals first | exact k1 | exact el_map hn rfl | rfl | omega | skip
theorem q15 (s o : List Iv) : Runs Tryz.prog 0 (loopN Tryz.prog 103 0) (St.as (I15 s o s.length) 33) (.exit 0) (St.as (I15 s o s.length) 33) := by
 refine round_wp (p := condP (decide ((↑s.length : Int) < (↑s.length : Int))) (False) ((rf (vL (List.map ivD o))) ∧ (rf (vL (List.map ivD s))) ∧ (rf (vI (↑s.length : Int))) ∧ (rf (vI (↑s.length : Int))) ∧ True)) (h := {}) (subs := []) (ws := []) (ρ := []) (by kernel_rfl) ?_
 repeat' (with_reducible first|exact ⟨⟩|apply And.intro|(first|apply zA|apply zB|apply zC|apply zD|apply zE|apply zF|apply zG)<;>intro)
 all_goals first | rfl | omega
theorem gap15n (s : List Iv) (x : Iv) (hs : s.length < 400000) (hL : True) (h : nop s x = true) (k4 : True) (k5 : True) : FnOK Tryz.prog 103 ([.d (.sl (s.map ivD)), .d (ivD x)]) ([]) (.d (.sl [])) ([]) := by
 refine fnOK_wp (p := condP (!mayB x) ((FnOK Tryz.prog 117 [AV.d (ivD x)] [] (vB (mayB x)) []) ∧ ((D.bool !mayB x) = D.bool true) ∧ (rf (D.bool true)) ∧ (rf (D.bool true)) ∧ (rf (vL [])) ∧ True) (condP (iChk s != (0 : Int)) ((FnOK Tryz.prog 117 [AV.d (ivD x)] [] (vB (mayB x)) []) ∧ ((D.bool !mayB x) = D.bool false) ∧ (FnOK Tryz.prog 102 [vL (List.map ivD s)] [] (vI (iChk s)) []) ∧ (D.bool (iChk s != (0 : Int)) = D.bool true) ∧ (rf (D.bool true)) ∧ (rf (vL [])) ∧ True) ((FnOK Tryz.prog 117 [AV.d (ivD x)] [] (vB (mayB x)) []) ∧ ((D.bool !mayB x) = D.bool false) ∧ (FnOK Tryz.prog 102 [vL (List.map ivD s)] [] (vI (iChk s)) []) ∧ (D.bool (iChk s != (0 : Int)) = D.bool false) ∧ (FnOK Tryz.prog 118 [AV.d (ivD x)] [] (vB (noneB x)) []) ∧ (D.bool (noneB x) = D.bool true) ∧ (rf (vL [])) ∧ True))) (h := {G := [(117, gAns (.d (.bool (mayB x)))), (118, gAns (.d (.bool (noneB x)))), (102, gAns (.d (.int .i64 (iChk s))))], H := [(1, [(11, .val (.bool true))])]}) (subs := []) (ws := []) (ρ := []) (by kernel_rfl) ?_
 unfold nop at h
 have k1 := may30 x
 have k2 := none31 x
 have k3 := chk19 s (by omega)
 repeat' (with_reducible first|exact ⟨⟩|apply And.intro|(first|apply zA|apply zB|apply zC|apply zD|apply zE|apply zF|apply zG)<;>intro)
 all_goals first | exact k1 | exact k2 | exact k3 | exact k4 | exact k5 | exact hL | rfl | exact dyes ‹_› | exact dno ‹_› | (refine congrArg D.bool ?_; assumption) | (refine congrArg D.bool ?_; simp_all; done) | (exfalso; simp_all; done) | skip
theorem gap15y (s : List Iv) (hs : s.length < 400000) (x : Iv) (h1 : mayB x = true) (h2 : noneB x = false) (h3 : iChk s = 0) (k5 : True) (o : List Iv) (hL : Loops Tryz.prog 0 (loopN Tryz.prog 103 0) ((I15 s [x] 0).as 33) (.exit 0) ((I15 s o s.length).as 33)) : FnOK Tryz.prog 103 ([.d (.sl (s.map ivD)), .d (ivD x)]) ([]) (.d (.sl (o.map ivD))) ([]) := by
 refine fnOK_wp (p := (FnOK Tryz.prog 117 [AV.d (ivD x)] [] (vB true) []) ∧ (rf (D.bool false)) ∧ (FnOK Tryz.prog 102 [vL (List.map ivD s)] [] (vI 0) []) ∧ (rf (D.bool false)) ∧ (FnOK Tryz.prog 118 [AV.d (ivD x)] [] (vB false) []) ∧ (rf (vL [ivD x])) ∧ (rf (vL (List.map ivD s))) ∧ (vI (↑(List.map ivD s).length : Int) = vI (↑s.length : Int)) ∧ (rf (vI 0)) ∧ (LoopsS Tryz.prog 0 (loopN Tryz.prog 103 0) (I15 s [x] 0) (Exit.exit 0) (I15 s o s.length) 33) ∧ (rf (vL (List.map ivD o))) ∧ True) (h := {G := [(117, gAns (.d (.bool true))), (118, gAns (.d (.bool false))), (102, gAns (.d (.int .i64 0)))]}) (subs := [⟨[], [], I15 s [x] 0, .exit 0, I15 s o s.length⟩]) (ws := []) (ρ := []) (by kernel_rfl) ?_
 have k1 := may30 x
 have k2 := none31 x
 have k3 := chk19 s (by omega)
 rw [h1] at k1
 rw [h2] at k2
 rw [h3] at k3
 simp only [List.length_map]
 repeat' (with_reducible first|exact ⟨⟩|apply And.intro|(first|apply zA|apply zB|apply zC|apply zD|apply zE|apply zF|apply zG)<;>intro)
 all_goals first | exact k1 | exact k2 | exact k3 | exact hL | rfl | omega | (simp [chunk, ivD, D.cells]; done) | skip
def rGaps (s : List Iv) (x : Iv) : List Iv := if nop s x = true then [] else s.foldl rCut [x]
theorem one_ok {x : Iv} (hm : mayB x = true) (hn : noneB x = false) : Ok [x] := by
 have h1 := mayB_iff.1 hm
 have h2 := of_decide_eq_false hn
 exact ⟨⟨⟨by omega, by omega⟩, trivial⟩, fun y hy => by simp at hy; subst hy; exact h1.2.2⟩
theorem gaps_fold {s : List Iv} (h : ∀ y ∈ s, mayB y = true ∧ noneB y = false) : ∀ {o : List Iv}, Ok o → Ok (s.foldl rCut o) ∧ (∀ n, has (s.foldl rCut o) n = (has o n && !has s n)) ∧ (s.foldl rCut o).length ≤ o.length + s.length := by
 induction s with
 | nil => intro o ho; exact ⟨ho, fun n => by simp [has], by simp⟩
 | cons y s ih =>
  intro o ho
  have hy := h y (by simp)
  obtain ⟨c1, c2, c3⟩ := cut_ok ho hy.1 hy.2
  obtain ⟨i1, i2, i3⟩ := ih (fun z hz => h z (List.mem_cons_of_mem _ hz)) c1
  refine ⟨i1, fun n => ?_, ?_⟩
  ·show has (s.foldl rCut (rCut o y)) n = _
   rw [i2, c2, has_cons]
   cases has o n <;> cases decide (y.1 ≤ n ∧ n < y.2) <;> cases has s n <;> rfl
  ·show (s.foldl rCut (rCut o y)).length ≤ _
   rw [List.length_cons]; omega
theorem gaps15 (s : List Iv) (hs : s.length < 300000) (x : Iv) : FnOK Tryz.prog 103 [.d (.sl (s.map ivD)), .d (ivD x)] [] (.d (.sl ((rGaps s x).map ivD))) [] := by
 unfold rGaps
 cases hn : nop s x
 ·rw [if_neg (by simp)]
  obtain ⟨h1, h2, h3⟩ := nop_no hn
  have ok := iChk_iff.1 h3
  refine gap15y s (by omega) x h1 h2 h3 trivial _ ?_
  have h := loops_n (P := Tryz.prog) (k := 0) (c := loopN Tryz.prog 103 0) (e := .exit 0) (I := fun j => (I15 s ((s.take j).foldl rCut [x]) j).as 33) (by simp) s.length 0 (by omega) (fun j _ hj => ?_) (by simp only [List.take_length]; exact q15 s (s.foldl rCut [x]))
  ·exact h
  ·have hn := get_of hj
   obtain ⟨g1, -, g3⟩ := gaps_fold (s := s.take j) (fun y hy => ok_may ok (List.mem_of_mem_take hy)) (one_ok h1 h2)
   rw [List.length_take] at g3
   simp only [List.length_cons, List.length_nil] at g3
   show Runs _ _ _ _ _ ((I15 s ((s.take (j + 1)).foldl rCut [x]) (j + 1)).as _)
   rw [take_snoc hn, List.foldl_append]
   exact r15 s (by omega) _ _ j _ hn (cut13 _ (by omega) _)
 ·rw [if_pos rfl]; exact gap15n s x (by omega) trivial hn trivial trivial
end Go.Proofs.YtalpfhpeaaocmaaGreat.C06
end
section
namespace Go.Proofs.YtalpfhpeaaocmaaGreat.C06
open Sx Go.RowKit
def both (x y : Iv) : Iv := (max x.1 y.1, min x.2 y.2)
def stM (x : Iv) (m : List Iv) (y : Iv) : List Iv := pPut m (both x y)
def pMeet (a b : List Iv) : List Iv := a.foldl (fun m x => b.foldl (stM x) m) []
def rMeet (a b : List Iv) : List Iv := if (!(iChk a == 0) || !(iChk b == 0)) = true then [] else pMeet a b
end Go.Proofs.YtalpfhpeaaocmaaGreat.C06
end
section
namespace Go.Proofs.YtalpfhpeaaocmaaGreat.C06
open Sx Go.RowKit
def inV (x : Iv) (n : Int) : Bool := decide (x.1 ≤ n ∧ n < x.2)
theorem pPut_cons {x z y : Iv} {l : List Iv} : pPut (z :: y :: l) x = z :: pPut (y :: l) x := by
 by_cases h : x.2 ≤ x.1
 ·rw [pPut_none h, pPut_none h]
 ·rcases List.eq_nil_or_concat (y :: l) with g | ⟨l', w, g⟩
  ·cases g
  ·rw [List.concat_eq_append] at g
   rw [g, ← List.cons_append]
   by_cases g2 : w.2 ≥ x.1
   ·rw [pPut_t h g2, pPut_t h g2]; rfl
   ·rw [pPut_n h g2, pPut_n h g2]; rfl
theorem pPut_one {x z : Iv} (h : x.1 < x.2) : pPut [z] x = if z.2 ≥ x.1 then [(z.1, max z.2 x.2)] else [z, x] := by
 by_cases g : z.2 ≥ x.1
 ·rw [if_pos g]; exact pPut_t (l := []) (by omega) g
 ·rw [if_neg g]; exact pPut_n (l := []) (by omega) g
theorem pPut_ok {x : Iv} (hx : x.1 < x.2) {M : Int} (hM : x.2 ≤ M) : ∀ {m : List Iv} {e : Int}, Srt e m → (∀ z ∈ m, z.2 ≤ M) → (∀ z ∈ m, z.1 ≤ x.1) → e < x.1 →
  Srt e (pPut m x) ∧ (∀ z ∈ pPut m x, z.2 ≤ M) ∧ (∀ n, has (pPut m x) n = (has m n || inV x n)) ∧ (∀ z ∈ pPut m x, z.1 = x.1 ∨ ∃ w ∈ m, z.1 = w.1)
 | [], e, _, _, _, he => by
  rw [pPut_nil (by omega)]
  exact ⟨⟨⟨he, hx⟩, trivial⟩, (fun z hz => by simp at hz; rw [hz]; exact hM), (fun n => by simp [has, inV]), (fun z hz => by simp at hz; exact .inl (by rw [hz]))⟩
 | [z], e, hs, hu, hz, he => by
  have h1 := hs.1
  have h2 := hz z (by simp)
  have h3 := hu z (by simp)
  rw [pPut_one hx]
  by_cases g : z.2 ≥ x.1
  ·rw [if_pos g]
   refine ⟨⟨⟨h1.1, by show z.1 < max z.2 x.2; omega⟩, trivial⟩, fun w hw => ?_, fun n => ?_, fun w hw => ?_⟩
   ·simp at hw; rw [hw]; show max z.2 x.2 ≤ M; omega
   ·rw [has_cons, has_cons]
    show (decide (z.1 ≤ n ∧ n < max z.2 x.2) || has [] n) = _
    simp only [has, List.any_nil, Bool.or_false, inV]
    rw [← Bool.decide_or]
    exact decide_eq_decide.2 (by omega)
   ·simp at hw; exact .inr ⟨z, by simp, by rw [hw]⟩
  ·rw [if_neg g]
   refine ⟨⟨h1, ⟨by omega, hx⟩, trivial⟩, fun w hw => ?_, fun n => ?_, fun w hw => ?_⟩
   ·simp at hw; rcases hw with rfl | rfl
    ·exact h3
    ·exact hM
   ·rw [has_cons, has_cons, has_cons]
    simp [has, inV]
   ·simp at hw; rcases hw with rfl | rfl
    ·exact .inr ⟨w, by simp, rfl⟩
    ·exact .inl rfl
 | z :: y :: l, e, hs, hu, hz, he => by
  have h1 := hs.1
  have h2 := hz z (by simp)
  have hy := hz y (by simp)
  have hy1 := hs.2.1
  obtain ⟨i1, i2, i3, i4⟩ := pPut_ok hx hM hs.2 (fun w hw => hu w (List.mem_cons_of_mem _ hw)) (fun w hw => hz w (List.mem_cons_of_mem _ hw)) (by omega)
  rw [pPut_cons]
  refine ⟨⟨h1, i1⟩, fun w hw => ?_, fun n => ?_, fun w hw => ?_⟩
  ·rcases List.mem_cons.1 hw with rfl | hw
   ·exact hu _ (by simp)
   ·exact i2 w hw
  ·rw [has_cons, i3, has_cons z, Bool.or_assoc]
  ·rcases List.mem_cons.1 hw with rfl | hw
   ·exact .inr ⟨w, by simp, rfl⟩
   ·rcases i4 w hw with h | ⟨v, hv, h⟩
    ·exact .inl h
    ·exact .inr ⟨v, List.mem_cons_of_mem _ hv, h⟩
theorem add_fold {x : Iv} (hx : x.1 < x.2) (h0 : -1 < x.1) {M : Int} (hM : x.2 ≤ M) : ∀ (s : List Iv) {m : List Iv} {q : Bool} {e : Int}, Srt e s → (∀ z ∈ s, z.2 ≤ M) → -1 ≤ e → Srt (-1) m → (∀ z ∈ m, z.2 ≤ M) → (∀ z ∈ m, z.1 ≤ e) → (q = false → ∀ z ∈ m, z.1 ≤ x.1) →
  Srt (-1) (s.foldl (stA x) (m, q)).1 ∧ (∀ z ∈ (s.foldl (stA x) (m, q)).1, z.2 ≤ M) ∧ (∀ n, has (s.foldl (stA x) (m, q)).1 n = (has m n || has s n || (!q && (s.foldl (stA x) (m, q)).2 && inV x n))) ∧ ((s.foldl (stA x) (m, q)).2 = false → ∀ z ∈ (s.foldl (stA x) (m, q)).1, z.1 ≤ x.1)
 | [], m, q, e, _, _, _, h1, h2, _, h4 => ⟨h1, h2, (fun n => by cases q <;> simp [has]), h4⟩
 | y :: s, m, q, e, hs, hu, he, h1, h2, h3, h4 => by
  have hy := hs.1
  have hyM := hu y (by simp)
  rw [List.foldl_cons]
  by_cases g : q = false ∧ x.1 ≤ y.1
  ·have es : stA x (m, q) y = (pPut (pPut m x) y, true) := by unfold stA; rw [if_pos g]
   rw [es]
   obtain ⟨a1, a2, a3, a4⟩ := pPut_ok hx hM h1 h2 (h4 g.1) h0
   have ax : ∀ z ∈ pPut m x, z.1 ≤ y.1 := fun z hz => by
    rcases a4 z hz with h | ⟨w, hw, h⟩
    ·omega
    ·have := h3 w hw; omega
   obtain ⟨b1, b2, b3, b4⟩ := pPut_ok hy.2 hyM a1 a2 ax (by omega)
   obtain ⟨i1, i2, i3, i4⟩ := add_fold hx h0 hM s (m := pPut (pPut m x) y) (q := true) (e := y.2) hs.2 (fun z hz => hu z (List.mem_cons_of_mem _ hz)) (by omega) b1 b2 (fun z hz => by
    rcases b4 z hz with h | ⟨w, hw, h⟩
    ·omega
    ·have := ax w hw; omega) (fun h => by cases h)
   have i5 : (s.foldl (stA x) (pPut (pPut m x) y, true)).2 = true := by
    clear i1 i2 i3 i4
    generalize pPut (pPut m x) y = m'
    induction s generalizing m' with
    | nil => rfl
    | cons z s ih =>
     rw [List.foldl_cons]
     have : stA x (m', true) z = (pPut m' z, true) := by unfold stA; rw [if_neg (by simp)]
     rw [this]
     exact ih (hs := by
      have := hs.2.2
      have h5 := hs.2.1
      exact ⟨hs.1, srt_up (by omega) this⟩) (hu := fun w hw => hu w (by
      rcases List.mem_cons.1 hw with rfl | hw
      ·simp
      ·exact List.mem_cons_of_mem _ (List.mem_cons_of_mem _ hw))) _
   refine ⟨i1, i2, fun n => ?_, fun h => by rw [i5] at h; cases h⟩
   rw [i3, b3, a3, i5, g.1, has_cons]
   show ((has m n || inV x n || inV y n) || has s n || _) = (has m n || (inV y n || has s n) || _)
   cases has m n <;> cases inV x n <;> cases inV y n <;> cases has s n <;> rfl
  ·have es : stA x (m, q) y = (pPut m y, q) := by unfold stA; rw [if_neg g]
   rw [es]
   obtain ⟨b1, b2, b3, b4⟩ := pPut_ok hy.2 hyM h1 h2 (fun z hz => by have := h3 z hz; omega) (by omega)
   obtain ⟨i1, i2, i3, i4⟩ := add_fold hx h0 hM s (m := pPut m y) (q := q) (e := y.2) hs.2 (fun z hz => hu z (List.mem_cons_of_mem _ hz)) (by omega) b1 b2 (fun z hz => by
    rcases b4 z hz with h | ⟨w, hw, h⟩
    ·omega
    ·have := h3 w hw; omega) (fun h z hz => by
    rcases b4 z hz with h' | ⟨w, hw, h'⟩
    ·by_cases k : x.1 ≤ y.1
     ·exact absurd ⟨h, k⟩ g
     ·omega
    ·have := h4 h w hw; omega)
   refine ⟨i1, i2, fun n => ?_, i4⟩
   rw [i3, b3, has_cons]
   show ((has m n || inV y n) || has s n || _) = (has m n || (inV y n || has s n) || _)
   cases has m n <;> cases inV y n <;> rfl
theorem add_ok {s : List Iv} (h : Ok s) {x : Iv} (hm : mayB x = true) (hn : noneB x = false) : Ok (rAdd s x) ∧ (∀ n, has (rAdd s x) n = (has s n || inV x n)) := by
 have h2 := of_decide_eq_false hn
 have h1 := mayB_iff.1 hm
 have e : rAdd s x = pAdd s x := by
  unfold rAdd nop
  rw [hm, hn, iChk_iff.2 h]
  rfl
 rw [e]
 obtain ⟨i1, i2, i3, i4⟩ := add_fold (x := x) (by omega) (by omega) (M := 4611686018427387903) (by omega) s (m := []) (q := false) (e := -1) h.srt h.up (by omega) trivial (fun z hz => by cases hz) (fun z hz => by cases hz) (fun _ z hz => by cases hz)
 unfold pAdd
 cases hq : (pAddF s x).2
 ·rw [if_neg (by simp)]
  obtain ⟨b1, b2, b3, b4⟩ := pPut_ok (x := x) (M := 4611686018427387903) (by omega) (by omega) i1 i2 (i4 hq) (by omega)
  refine ⟨⟨b1, b2⟩, fun n => ?_⟩
  have e3 := i3 n
  show has (pPut (s.foldl (stA x) ([], false)).1 x) n = _
  rw [b3, e3]
  have hq' : (s.foldl (stA x) ([], false)).2 = false := hq
  rw [hq']
  simp [has]
 ·rw [if_pos rfl]
  refine ⟨⟨i1, i2⟩, fun n => ?_⟩
  have e3 := i3 n
  have hq' : (s.foldl (stA x) ([], false)).2 = true := hq
  rw [hq'] at e3
  show has (s.foldl (stA x) ([], false)).1 n = _
  rw [e3]
  simp [has]
theorem inV_both (x y : Iv) (n : Int) : inV (both x y) n = (inV x n && inV y n) := by
 unfold inV both
 rw [← Bool.decide_and]
 exact decide_eq_decide.2 (by show (max x.1 y.1 ≤ n ∧ n < min x.2 y.2) ↔ _; omega)
theorem meet_in {x : Iv} (h0 : -1 < x.1) {M : Int} (hM : x.2 ≤ M) : ∀ (b : List Iv) {m : List Iv} {e : Int}, Srt e b → Srt (-1) m → (∀ z ∈ m, z.2 ≤ M) → (∀ z ∈ m, z.1 ≤ max x.1 e) → (∀ z ∈ m, z.1 < x.2) →
  Srt (-1) (b.foldl (stM x) m) ∧ (∀ z ∈ b.foldl (stM x) m, z.2 ≤ M) ∧ (∀ n, has (b.foldl (stM x) m) n = (has m n || (inV x n && has b n))) ∧ (∀ z ∈ b.foldl (stM x) m, z.1 < x.2)
 | [], m, e, _, h1, h2, _, h4 => ⟨h1, h2, (fun n => by simp [has]), h4⟩
 | y :: b, m, e, hs, h1, h2, h3, h4 => by
  have hy := hs.1
  rw [List.foldl_cons]
  by_cases g : (both x y).2 ≤ (both x y).1
  ·have es : stM x m y = m := pPut_none g
   rw [es]
   obtain ⟨i1, i2, i3, i4⟩ := meet_in h0 hM b (m := m) (e := y.2) hs.2 h1 h2 (fun z hz => by have := h3 z hz; omega) h4
   refine ⟨i1, i2, fun n => ?_, i4⟩
   rw [i3, has_cons]
   have := inV_both x y n
   have e2 : inV (both x y) n = false := decide_eq_false (by omega)
   rw [e2] at this
   show _ = (has m n || (inV x n && (inV y n || has b n)))
   rw [Bool.and_or_distrib_left, ← this, Bool.false_or]
  ·have gb : (both x y).1 = max x.1 y.1 := rfl
   have gc : (both x y).2 = min x.2 y.2 := rfl
   obtain ⟨b1, b2, b3, b4⟩ := pPut_ok (x := both x y) (by omega) (M := M) (by omega) h1 h2 (fun z hz => by have := h3 z hz; omega) (by omega)
   obtain ⟨i1, i2, i3, i4⟩ := meet_in h0 hM b (m := pPut m (both x y)) (e := y.2) hs.2 b1 b2 (fun z hz => by
    rcases b4 z hz with h | ⟨w, hw, h⟩
    ·omega
    ·have := h3 w hw; omega) (fun z hz => by
    rcases b4 z hz with h | ⟨w, hw, h⟩
    ·omega
    ·have := h4 w hw; omega)
   refine ⟨i1, i2, fun n => ?_, i4⟩
   show has (b.foldl (stM x) (pPut m (both x y))) n = _
   rw [i3, b3, inV_both, has_cons]
   show _ = (has m n || (inV x n && (inV y n || has b n)))
   cases has m n <;> cases inV x n <;> cases inV y n <;> cases has b n <;> rfl
theorem meet_out {b : List Iv} (hb : Ok b) {M : Int} : ∀ (a : List Iv) {m : List Iv} {e : Int}, Srt e a → -1 ≤ e → (∀ z ∈ a, z.2 ≤ M) → Srt (-1) m → (∀ z ∈ m, z.2 ≤ M) → (∀ z ∈ m, z.1 ≤ e) →
  Srt (-1) (a.foldl (fun m x => b.foldl (stM x) m) m) ∧ (∀ z ∈ a.foldl (fun m x => b.foldl (stM x) m) m, z.2 ≤ M) ∧ (∀ n, has (a.foldl (fun m x => b.foldl (stM x) m) m) n = (has m n || (has a n && has b n)))
 | [], m, e, _, _, _, h1, h2, _ => ⟨h1, h2, (fun n => by simp [has])⟩
 | x :: a, m, e, hs, he, hu, h1, h2, h3 => by
  have hx := hs.1
  have hxM := hu x (by simp)
  rw [List.foldl_cons]
  obtain ⟨b1, b2, b3, b4⟩ := meet_in (x := x) (by omega) hxM b (m := m) (e := -1) hb.srt h1 h2 (fun z hz => by have := h3 z hz; omega) (fun z hz => by have := h3 z hz; omega)
  obtain ⟨i1, i2, i3⟩ := meet_out hb (M := M) a (m := b.foldl (stM x) m) (e := x.2) hs.2 (by omega) (fun z hz => hu z (List.mem_cons_of_mem _ hz)) b1 b2 (fun z hz => by have := b4 z hz; omega)
  refine ⟨i1, i2, fun n => ?_⟩
  rw [i3, b3, has_cons]
  show _ = (has m n || ((inV x n || has a n) && has b n))
  cases has m n <;> cases inV x n <;> cases has a n <;> cases has b n <;> rfl
theorem meet_ok {a b : List Iv} (ha : Ok a) (hb : Ok b) : Ok (rMeet a b) ∧ (∀ n, has (rMeet a b) n = (has a n && has b n)) := by
 have e : rMeet a b = pMeet a b := by
  unfold rMeet
  rw [iChk_iff.2 ha, iChk_iff.2 hb]
  rfl
 rw [e]
 obtain ⟨i1, i2, i3⟩ := meet_out hb (M := 4611686018427387903) a (m := []) (e := -1) ha.srt (by omega) ha.up trivial (fun z hz => by cases hz) (fun z hz => by cases hz)
 exact ⟨⟨i1, i2⟩, fun n => by show has (a.foldl (fun m x => b.foldl (stM x) m) []) n = _; rw [i3]; simp [has]⟩
end Go.Proofs.YtalpfhpeaaocmaaGreat.C06
end
section
namespace Go.Proofs.YtalpfhpeaaocmaaGreat.C06
open Sx Go.RowKit
def dPut (l : List Iv) (x : Iv) : List Iv := match l.getLast? with | some z => if z.2 < x.1 then l ++ [x] else l.dropLast ++ [(z.1, x.2)] | none => [x]
theorem dPut_n {l : List Iv} {z x : Iv} (g : z.2 < x.1) : dPut (l ++ [z]) x = l ++ [z] ++ [x] := by unfold dPut; rw [List.getLast?_append]; simp [g]
theorem dPut_t {l : List Iv} {z x : Iv} (g : ¬z.2 < x.1) : dPut (l ++ [z]) x = l ++ [(z.1, x.2)] := by unfold dPut; rw [List.getLast?_append]; simp [g]
end Go.Proofs.YtalpfhpeaaocmaaGreat.C06
end
section
namespace Go.Proofs.YtalpfhpeaaocmaaGreat.C06
open Sx Go.RowKit
def flat (s : List Iv) : List Int := s.flatMap fun x => [x.1, x.2]
theorem flat_cons (x : Iv) (s : List Iv) : flat (x :: s) = x.1 :: x.2 :: flat s := by unfold flat; rw [List.flatMap_cons]; rfl
/-- Where a number comes in. -/
def kOf (o : List Int) (v : Int) : Nat := (o.takeWhile (fun u => decide (u < v))).length
def ins1 (o : List Int) (v : Int) : List Int := if o[kOf o v]? = some v then o else o.take (kOf o v) ++ [v] ++ o.drop (kOf o v)
def rEnds (a b : List Iv) : List Int := (flat a ++ flat b).foldl ins1 []
end Go.Proofs.YtalpfhpeaaocmaaGreat.C06
end
section
namespace Go.Proofs.YtalpfhpeaaocmaaGreat.C06
open Sx Go.RowKit
def kindB (how : Int) (x y : Bool) : Bool := (decide (how = 0) && (x || y)) || (decide (how = 1) && (x && !y)) || (decide (how = 2) && (x && y))
def kf (P : Int → Bool) : List Iv → List Int → List Iv
 | o, u :: v :: r => kf P (if P u = true then dPut o (u, v) else o) (v :: r)
 | o, _ => o
def rKind (a b : List Iv) (how : Int) : List Iv := kf (fun u => kindB how (has a u) (has b u)) [] (rEnds a b)
def dNop (s : List Iv) (x : Iv) : Bool := !(iChk s == 0) || !mayB x
def dMeet (a b : List Iv) : List Iv := if (!(iChk a == 0) || !(iChk b == 0)) = true then [] else rKind a b 2
end Go.Proofs.YtalpfhpeaaocmaaGreat.C06
end
section
namespace Go.Proofs.YtalpfhpeaaocmaaGreat.C06
open Sx Go.RowKit
theorem ins1_nil (v : Int) : ins1 [] v = [v] := rfl
theorem kOf_cons (u : Int) (o : List Int) (v : Int) : kOf (u :: o) v = if u < v then kOf o v + 1 else 0 := by
 unfold kOf
 rw [List.takeWhile_cons]
 by_cases h : u < v <;> simp [h]
theorem ins1_cons (u : Int) (o : List Int) (v : Int) : ins1 (u :: o) v = if u < v then u :: ins1 o v else if u = v then u :: o else v :: u :: o := by
 unfold ins1
 rw [kOf_cons]
 by_cases h : u < v
 ·simp only [h, if_true, List.getElem?_cons_succ, List.take_succ_cons, List.drop_succ_cons]
  by_cases g : o[kOf o v]? = some v
  ·rw [if_pos g, if_pos g]
  ·rw [if_neg g, if_neg g]; rfl
 ·simp only [h, if_false]
  by_cases g : u = v
  ·simp [g]
  ·simp [g]
theorem ins1_mem (v w : Int) : ∀ o : List Int, w ∈ ins1 o v ↔ w = v ∨ w ∈ o
 | [] => by simp [ins1_nil]
 | u :: o => by
  rw [ins1_cons]
  have ih := ins1_mem v w o
  by_cases h : u < v
  ·rw [if_pos h, List.mem_cons, ih, List.mem_cons]; constructor <;> (intro h; rcases h with h | h | h <;> simp [h])
  ·rw [if_neg h]
   by_cases g : u = v
   ·rw [if_pos g, ← g, List.mem_cons]; simp
   ·rw [if_neg g, List.mem_cons]
theorem ins1_srt (v : Int) : ∀ o : List Int, o.Pairwise (· < ·) → (ins1 o v).Pairwise (· < ·)
 | [], _ => by simp [ins1_nil]
 | u :: o, h => by
  rw [ins1_cons]
  have h1 := List.pairwise_cons.1 h
  by_cases g : u < v
  ·rw [if_pos g]
   refine List.pairwise_cons.2 ⟨fun w hw => ?_, ins1_srt v o h1.2⟩
   rcases (ins1_mem v w o).1 hw with rfl | hw
   ·exact g
   ·exact h1.1 w hw
  ·rw [if_neg g]
   by_cases k : u = v
   ·rw [if_pos k]; exact h
   ·rw [if_neg k]
    refine List.pairwise_cons.2 ⟨fun w hw => ?_, h⟩
    rcases List.mem_cons.1 hw with rfl | hw
    ·omega
    ·have := h1.1 w hw; omega
theorem insF_ok : ∀ (l o : List Int), o.Pairwise (· < ·) → (l.foldl ins1 o).Pairwise (· < ·) ∧ ∀ w, w ∈ l.foldl ins1 o ↔ w ∈ o ∨ w ∈ l
 | [], o, h => ⟨h, fun w => by simp⟩
 | v :: l, o, h => by
  obtain ⟨i1, i2⟩ := insF_ok l (ins1 o v) (ins1_srt v o h)
  refine ⟨i1, fun w => ?_⟩
  rw [List.foldl_cons, i2, ins1_mem, List.mem_cons]
  constructor
  ·rintro ((h | h) | h) <;> simp [h]
  ·rintro (h | h | h) <;> simp [h]
theorem flat_mem (w : Int) : ∀ s : List Iv, w ∈ flat s ↔ ∃ x ∈ s, w = x.1 ∨ w = x.2
 | [] => by simp [flat]
 | x :: s => by
  rw [flat_cons, List.mem_cons, List.mem_cons, flat_mem w s]
  constructor
  ·rintro (h | h | ⟨y, hy, h⟩)
   ·exact ⟨x, by simp, .inl h⟩
   ·exact ⟨x, by simp, .inr h⟩
   ·exact ⟨y, List.mem_cons_of_mem _ hy, h⟩
  ·rintro ⟨y, hy, h⟩
   rcases List.mem_cons.1 hy with rfl | hy
   ·rcases h with h | h
    ·exact .inl h
    ·exact .inr (.inl h)
   ·exact .inr (.inr ⟨y, hy, h⟩)
theorem rEnds_ok (a b : List Iv) : (rEnds a b).Pairwise (· < ·) ∧ ∀ w, w ∈ rEnds a b ↔ (∃ x ∈ a, w = x.1 ∨ w = x.2) ∨ ∃ x ∈ b, w = x.1 ∨ w = x.2 := by
 obtain ⟨i1, i2⟩ := insF_ok (flat a ++ flat b) [] List.Pairwise.nil
 refine ⟨i1, fun w => ?_⟩
 show w ∈ (flat a ++ flat b).foldl ins1 [] ↔ _
 rw [i2, List.mem_append, flat_mem, flat_mem]
 simp
def segs (P : Int → Bool) : List Int → Int → Bool
 | u :: v :: r, n => (P u && decide (u ≤ n ∧ n < v)) || segs P (v :: r) n
 | _, _ => false
theorem dPut_eq {o : List Iv} {x : Iv} (hx : x.1 < x.2) (h : ∀ z ∈ o, z.2 ≤ x.1) : dPut o x = pPut o x := by
 rcases List.eq_nil_or_concat o with rfl | ⟨o, z, rfl⟩
 ·rw [pPut_nil (by omega)]; rfl
 ·rw [List.concat_eq_append] at *
  have hz := h z (by simp)
  by_cases g : z.2 < x.1
  ·rw [dPut_n g, pPut_n (by omega) (by omega)]
  ·rw [dPut_t g, pPut_t (by omega) (by omega), show max z.2 x.2 = x.2 by omega]
theorem kf_ok (P : Int → Bool) {M : Int} : ∀ (r : List Int) (u : Int) (o : List Iv), (u :: r).Pairwise (· < ·) → Srt (-1) o → (∀ z ∈ o, z.2 ≤ u) → -1 < u → (∀ w ∈ u :: r, w ≤ M) →
  Srt (-1) (kf P o (u :: r)) ∧ (∀ z ∈ kf P o (u :: r), z.2 ≤ M) ∧ ∀ n, has (kf P o (u :: r)) n = (has o n || segs P (u :: r) n)
 | [], u, o, _, h1, h2, _, h4 => ⟨h1, (fun z hz => by have h5 := h4 u (by simp); have := h2 z hz; omega), (fun n => by show has o n = (has o n || false); rw [Bool.or_false])⟩
 | v :: r, u, o, hs, h1, h2, h3, h4 => by
  have h5 := List.pairwise_cons.1 hs
  have huv : u < v := h5.1 v (by simp)
  have h6 : ∀ w ∈ v :: r, w ≤ M := fun w hw => h4 w (List.mem_cons_of_mem _ hw)
  show Srt (-1) (kf P (if P u = true then dPut o (u, v) else o) (v :: r)) ∧ _
  have e : ∀ n, segs P (u :: v :: r) n = ((P u && decide (u ≤ n ∧ n < v)) || segs P (v :: r) n) := fun n => rfl
  cases g : P u
  ·rw [if_neg (by simp)]
   obtain ⟨i1, i2, i3⟩ := kf_ok P r v o h5.2 h1 (fun z hz => by have := h2 z hz; omega) (by omega) h6
   have ek : kf P o (u :: v :: r) = kf P o (v :: r) := by show kf P (if P u = true then _ else o) (v :: r) = _; rw [g]; rfl
   rw [ek]
   refine ⟨i1, i2, fun n => ?_⟩
   rw [i3, e, g]; rfl
  ·rw [if_pos rfl, dPut_eq (x := (u, v)) huv h2]
   have hz : ∀ z ∈ o, z.1 ≤ u := fun z hz => by have := (srt_mem h1 z hz).2; have := h2 z hz; omega
   obtain ⟨b1, b2, b3, -⟩ := pPut_ok (x := (u, v)) huv (M := v) (Int.le_refl _) h1 (fun z hz => by have := h2 z hz; omega) hz h3
   obtain ⟨i1, i2, i3⟩ := kf_ok P r v (pPut o (u, v)) h5.2 b1 b2 (by omega) h6
   have ek : kf P o (u :: v :: r) = kf P (pPut o (u, v)) (v :: r) := by show kf P (if P u = true then _ else o) (v :: r) = _; rw [g, if_pos rfl, dPut_eq (x := (u, v)) huv h2]
   rw [ek]
   refine ⟨i1, i2, fun n => ?_⟩
   rw [i3, b3, e, g]
   show ((has o n || decide (u ≤ n ∧ n < v)) || segs P (v :: r) n) = (has o n || ((true && decide (u ≤ n ∧ n < v)) || segs P (v :: r) n))
   rw [Bool.true_and, Bool.or_assoc]
theorem segs_ok {P : Int → Bool} {E : List Int} (hc : ∀ u n, u ≤ n → (∀ w ∈ E, ¬(u < w ∧ w ≤ n)) → P n = P u) (hl : ∀ n, (∀ w ∈ E, w ≤ n) → P n = false) (n : Int) : ∀ (r : List Int) (u : Int), (u :: r).Pairwise (· < ·) → (∀ w ∈ E, w ≤ u ∨ w ∈ r) → segs P (u :: r) n = (decide (u ≤ n) && P n)
 | [], u, _, hE => by
  show false = _
  by_cases g : u ≤ n
  ·rw [hl n (fun w hw => by rcases hE w hw with h | h; omega; cases h), Bool.and_false]
  ·rw [decide_eq_false g]; rfl
 | v :: r, u, hs, hE => by
  have h5 := List.pairwise_cons.1 hs
  have huv : u < v := h5.1 v (by simp)
  have ih := segs_ok hc hl n r v h5.2 (fun w hw => by
   rcases hE w hw with h | h
   ·exact .inl (by omega)
   ·rcases List.mem_cons.1 h with rfl | h
    ·exact .inl (Int.le_refl _)
    ·exact .inr h)
  show ((P u && decide (u ≤ n ∧ n < v)) || segs P (v :: r) n) = _
  rw [ih]
  by_cases g : u ≤ n
  ·by_cases k : n < v
   ·rw [decide_eq_true (p := u ≤ n ∧ n < v) ⟨g, k⟩, decide_eq_false (p := v ≤ n) (by omega), decide_eq_true g, hc u n g (fun w hw => by
     rcases hE w hw with h | h
     ·omega
     ·rcases List.mem_cons.1 h with rfl | h
      ·omega
      ·have := (List.pairwise_cons.1 h5.2).1 w h; omega)]
    cases P u <;> rfl
   ·rw [decide_eq_false (p := u ≤ n ∧ n < v) (by omega), decide_eq_true (p := v ≤ n) (by omega), decide_eq_true g]
    cases P u <;> cases P n <;> rfl
  ·rw [decide_eq_false (p := u ≤ n ∧ n < v) (by omega), decide_eq_false (p := v ≤ n) (by omega), decide_eq_false g]
   cases P u <;> rfl
theorem has_same {u n : Int} (h : u ≤ n) : ∀ {a : List Iv}, (∀ x ∈ a, ¬(u < x.1 ∧ x.1 ≤ n) ∧ ¬(u < x.2 ∧ x.2 ≤ n)) → has a n = has a u
 | [], _ => rfl
 | x :: a, g => by
  have gx := g x (by simp)
  rw [has_cons, has_cons, has_same h (fun y hy => g y (List.mem_cons_of_mem _ hy))]
  congr 1
  exact decide_eq_decide.2 (by omega)
theorem has_no {n : Int} {a : List Iv} (h : ∀ x ∈ a, n < x.1 ∨ x.2 ≤ n) : has a n = false := by
 cases q : has a n
 ·rfl
 ·obtain ⟨x, hx, h1⟩ := has_iff.1 q
  have := h x hx
  omega
theorem kind_ok {a b : List Iv} (ha : Ok a) (hb : Ok b) {how : Int} (h0 : kindB how false false = false) : Ok (rKind a b how) ∧ ∀ n, has (rKind a b how) n = kindB how (has a n) (has b n) := by
 obtain ⟨e1, e2⟩ := rEnds_ok a b
 have hin : ∀ w ∈ rEnds a b, -1 < w ∧ w ≤ 4611686018427387903 := fun w hw => by
  rcases (e2 w).1 hw with ⟨x, hx, h⟩ | ⟨x, hx, h⟩
  ·have := srt_mem ha.srt x hx; have := ha.up x hx; omega
  ·have := srt_mem hb.srt x hx; have := hb.up x hx; omega
 have hc : ∀ u n, u ≤ n → (∀ w ∈ rEnds a b, ¬(u < w ∧ w ≤ n)) → kindB how (has a n) (has b n) = kindB how (has a u) (has b u) := fun u n h g => by
  rw [has_same h (a := a) (fun x hx => ⟨g _ ((e2 _).2 (.inl ⟨x, hx, .inl rfl⟩)), g _ ((e2 _).2 (.inl ⟨x, hx, .inr rfl⟩))⟩), has_same h (a := b) (fun x hx => ⟨g _ ((e2 _).2 (.inr ⟨x, hx, .inl rfl⟩)), g _ ((e2 _).2 (.inr ⟨x, hx, .inr rfl⟩))⟩)]
 have hl : ∀ n, (∀ w ∈ rEnds a b, w ≤ n) → kindB how (has a n) (has b n) = false := fun n g => by
  rw [has_no (a := a) (fun x hx => .inr (g _ ((e2 _).2 (.inl ⟨x, hx, .inr rfl⟩)))), has_no (a := b) (fun x hx => .inr (g _ ((e2 _).2 (.inr ⟨x, hx, .inr rfl⟩))))]
  exact h0
 have hf : ∀ n, (∀ w ∈ rEnds a b, n < w) → kindB how (has a n) (has b n) = false := fun n g => by
  rw [has_no (a := a) (fun x hx => .inl (g _ ((e2 _).2 (.inl ⟨x, hx, .inl rfl⟩)))), has_no (a := b) (fun x hx => .inl (g _ ((e2 _).2 (.inr ⟨x, hx, .inl rfl⟩))))]
  exact h0
 unfold rKind
 generalize hP : (fun u => kindB how (has a u) (has b u)) = P
 have hP' : ∀ u, kindB how (has a u) (has b u) = P u := fun u => congrFun hP u
 simp only [hP'] at hc hl hf ⊢
 generalize rEnds a b = e at *
 cases e with
 | nil =>
  refine ⟨⟨trivial, fun x hx => by cases hx⟩, fun n => ?_⟩
  rw [hl n (fun w hw => by cases hw)]
  rfl
 | cons u r =>
  obtain ⟨i1, i2, i3⟩ := kf_ok P (M := 4611686018427387903) r u [] e1 trivial (fun z hz => by cases hz) (hin u (by simp)).1 (fun w hw => (hin w hw).2)
  refine ⟨⟨i1, i2⟩, fun n => ?_⟩
  rw [i3, segs_ok hc hl n r u e1 (fun w hw => by
   rcases List.mem_cons.1 hw with rfl | hw
   ·exact .inl (Int.le_refl _)
   ·exact .inr hw)]
  show (false || (decide (u ≤ n) && P n)) = P n
  by_cases g : u ≤ n
  ·rw [decide_eq_true g]; simp
  ·rw [decide_eq_false g, hf n (fun w hw => by
    rcases List.mem_cons.1 hw with rfl | hw
    ·omega
    ·have := (List.pairwise_cons.1 e1).1 w hw; omega)]
   rfl
theorem nop_eq (s : List Iv) (x : Iv) : nop s x = (dNop s x || noneB x) := by
 unfold nop dNop
 cases mayB x <;> cases noneB x <;> cases (iChk s == 0) <;> rfl
theorem inV_none {x : Iv} (h : noneB x = true) (n : Int) : inV x n = false := decide_eq_false (by have := of_decide_eq_true h; omega)
theorem gaps_ok {s : List Iv} (ok : Ok s) {x : Iv} (h2 : mayB x = true) : Ok (rGaps s x) ∧ ∀ n, has (rGaps s x) n = (inV x n && !has s n) := by
 unfold rGaps
 rw [nop_eq, show dNop s x = false by unfold dNop; rw [iChk_iff.2 ok, h2]; rfl, Bool.false_or]
 cases g : noneB x
 ·rw [if_neg (by simp)]
  obtain ⟨g1, g2, -⟩ := gaps_fold (s := s) (fun y hy => ok_may ok hy) (one_ok h2 g)
  exact ⟨g1, fun n => by rw [g2]; simp [has, inV]⟩
 ·rw [if_pos rfl]
  exact ⟨⟨trivial, fun x hx => by cases hx⟩, fun n => by rw [inV_none g]; rfl⟩
theorem meet_same (a b : List Iv) : rMeet a b = dMeet a b := by
 cases h : (!(iChk a == 0) || !(iChk b == 0))
 ·have h' := h
  simp only [Bool.or_eq_false_iff, Bool.not_eq_false', beq_iff_eq] at h'
  have oa := iChk_iff.1 h'.1
  have ob := iChk_iff.1 h'.2
  obtain ⟨m1, m2⟩ := meet_ok oa ob
  obtain ⟨k1, k2⟩ := kind_ok oa ob (how := 2) rfl
  have e : dMeet a b = rKind a b 2 := by unfold dMeet; rw [h]; rfl
  rw [e]
  refine ok_inj m1 k1 fun n => ?_
  rw [m2, k2]
  cases has a n <;> cases has b n <;> rfl
 ·unfold rMeet dMeet; rw [h, if_pos rfl, if_pos rfl]
def adv (s : List Iv) (n : Int) : Int := if (fnd s n).2 = true then (fnd s n).1.2 else n
theorem srt_end : ∀ {s : List Iv} {e : Int}, Srt e s → ∀ y ∈ s, has s y.2 = false
 | [], _, _, y, hy => by cases hy
 | z :: s, e, h, y, hy => by
  rw [has_cons, Bool.or_eq_false_iff]
  rcases List.mem_cons.1 hy with rfl | hy
  ·exact ⟨decide_eq_false (by omega), srt_low h.2 (Int.le_refl _)⟩
  ·have := srt_mem h.2 y hy
   exact ⟨decide_eq_false (by omega), srt_end h.2 y hy⟩
theorem fnd_mem {s : List Iv} {n : Int} (h : (fnd s n).2 = true) : (fnd s n).1 ∈ s ∧ (fnd s n).1.1 ≤ n ∧ n < (fnd s n).1.2 := by
 revert h
 unfold fnd
 cases h : s.find? (inI n) with
 | none => intro h; cases h
 | some y =>
  intro _
  have h2 : inI n y = true := List.find?_some h
  exact ⟨List.mem_of_find?_eq_some h, of_decide_eq_true h2⟩
theorem has_adv {s : List Iv} {e : Int} (h : Srt e s) (n : Int) : has s (adv s n) = false := by
 unfold adv
 by_cases g : (fnd s n).2 = true
 ·rw [if_pos g]; exact srt_end h _ (fnd_mem g).1
 ·rw [if_neg g]
  have := rHas_eq s n
  unfold rHas at this
  rw [← this]; simpa using g
end Go.Proofs.YtalpfhpeaaocmaaGreat.C06
end
section
namespace Go.Proofs.YtalpfhpeaaocmaaGreat.C06
open Sx Go.RowKit
theorem rCut_len (s : List Iv) (x : Iv) : (rCut s x).length ≤ s.length + 1 := by
 cases hn : nop s x
 ·obtain ⟨h1, h2, h3⟩ := nop_no hn
  exact (cut_ok (iChk_iff.1 h3) h1 h2).2.2
 ·have e : rCut s x = s := by unfold rCut; rw [if_pos hn]
  rw [e]; omega
theorem rGaps_len (s : List Iv) (x : Iv) : (rGaps s x).length ≤ s.length + 1 := by
 unfold rGaps
 cases hn : nop s x
 ·rw [if_neg (by simp)]
  obtain ⟨h1, h2, h3⟩ := nop_no hn
  have ok := iChk_iff.1 h3
  have := (gaps_fold (s := s) (fun y hy => ok_may ok hy) (one_ok h1 h2)).2.2
  simp only [List.length_cons, List.length_nil] at this
  omega
 ·rw [if_pos rfl]; simp
end Go.Proofs.YtalpfhpeaaocmaaGreat.C06
end
section
namespace Go.Proofs.YtalpfhpeaaocmaaGreat.C06
open Sx Go.RowKit
theorem srt_len : ∀ {l : List Iv} {e M : Int}, Srt e l → (∀ x ∈ l, x.2 ≤ M) → e ≤ M → 2 * (l.length : Int) ≤ M - e
 | [], e, M, _, _, h => by simp; omega
 | x :: l, e, M, h, hM, _ => by
  have hx := h.1
  have hx2 := hM x (by simp)
  have := srt_len h.2 (fun y hy => hM y (List.mem_cons_of_mem _ hy)) hx2
  rw [List.length_cons]
  omega
theorem add_has {s : List Iv} (ok : Ok s) {y : Iv} (hm : mayB y = true) : Ok (rAdd s y) ∧ ∀ n, has (rAdd s y) n = (has s n || inV y n) := by
 cases g : noneB y
 ·exact add_ok ok hm g
 ·have e : rAdd s y = s := by unfold rAdd; rw [nop_eq, g, Bool.or_true, if_pos rfl]
  rw [e]
  exact ⟨ok, fun n => by rw [inV_none g, Bool.or_false]⟩
theorem cut_has {s : List Iv} (ok : Ok s) {y : Iv} (hm : mayB y = true) : Ok (rCut s y) ∧ ∀ n, has (rCut s y) n = (has s n && !inV y n) := by
 cases g : noneB y
 ·exact ⟨(cut_ok ok hm g).1, (cut_ok ok hm g).2.1⟩
 ·have e : rCut s y = s := by unfold rCut; rw [nop_eq, g, Bool.or_true, if_pos rfl]
  rw [e]
  exact ⟨ok, fun n => by rw [inV_none g]; simp⟩
end Go.Proofs.YtalpfhpeaaocmaaGreat.C06
end
section
namespace Go.Proofs.YtalpfhpeaaocmaaGreat.C11
open Sx Go.RowKit C06
structure Ck where
 f : Int
 t : Int
 s : Int
 r : Int
 l : Bool
 deriving DecidableEq
def ckD (c : Ck) : D := .agg [.int .i64 c.f, .int .i64 c.t, .int .i64 c.s, .int .i64 c.r, .bool c.l]
theorem ckD_ne {x y : Ck} (h : x ≠ y) : (x.f == y.f && (x.t == y.t && (x.s == y.s && (x.r == y.r && (x.l == y.l && true))))) = false := by
 cases hq : (x.f == y.f && (x.t == y.t && (x.s == y.s && (x.r == y.r && (x.l == y.l && true)))))
 ·rfl
 ·simp at hq
  obtain ⟨h1, h2, h3, h4, h5⟩ := hq
  exact absurd (by cases x; cases y; simp_all) h
structure Sq where
 b : Int
 d : List UInt8
 n : Int
 fl : List Ck
 cm : List Iv
 deriving DecidableEq
def sqD (s : Sq) : D := .agg [.int .i64 s.b, .str s.d, .int .i64 s.n, .sl (s.fl.map ckD), .sl (s.cm.map ivD)]
def ckI (c : Ck) : Iv := (c.f, c.t)
def cSz (c : Ck) : Int := IntKind.i64.wrap (c.t - c.f)
def tickB (n : Int) : Bool := decide (0 ≤ n) && decide (n ≤ 1099511627776)
def lastP : Int := 1099511623680
def camB (s : Sq) (x : Iv) : Bool := !(decide (x.1 ≤ s.b) || decide (x.2 > s.n))
def cameB (s : Sq) : Bool := decide (iChk s.cm = 0) && s.cm.all (camB s)
/-- Not where it should be. -/
def offB (s : Sq) (c : Ck) (at_ : Int) : Bool := decide (c.f < at_ ∨ c.t > s.n ∨ c.f ≥ c.t ∨ cSz c > 48)
def timB (c : Ck) : Bool := tickB c.s && (decide (c.r > 0) && decide (c.r ≤ 1073741824))
def fitsB (s : Sq) (c : Ck) (at_ : Int) : Bool := !offB s c at_ && (timB c && decide (rGaps s.cm (ckI c) = [ckI c]))
def flB (s : Sq) : List Ck → Int → Bool
 | [], _ => true
 | c :: l, a => fitsB s c a && flB s l c.t
def rngB (s : Sq) : Bool := decide (s.b < 0 ∨ s.b > lastP ∨ s.n < s.b ∨ IntKind.i64.wrap (s.n - s.b) > (s.d.length : Int))
def sChk (s : Sq) : Int := if rngB s = true then 8 else if (s.d.length : Int) > 4096 then 5 else if cameB s = false then 4 else if flB s s.fl s.b = false then 10 else 0
theorem wrap_in {x : Int} (h1 : -9223372036854775808 ≤ x) (h2 : x < 9223372036854775808) : IntKind.i64.wrap x = x := by rw [IntKind.wrap_i64]; omega
theorem sChk_ok {s : Sq} (hn : s.n < 9223372036854775808) (h : sChk s = 0) : (0 ≤ s.b ∧ s.b ≤ lastP ∧ s.b ≤ s.n ∧ s.n - s.b ≤ s.d.length) ∧ s.d.length ≤ 4096 ∧ cameB s = true ∧ flB s s.fl s.b = true := by
 unfold sChk at h
 split at h
 ·cases h
 ·next h1 =>
  split at h
  ·cases h
  ·next h2 =>
   split at h
   ·cases h
   ·next h3 =>
    split at h
    ·cases h
    ·next h4 =>
     have h5 : rngB s = false := by cases g : rngB s; rfl; exact absurd g h1
     have h6 := of_decide_eq_false h5
     by_cases a : s.b < 0
     ·exact absurd (.inl a) h6
     by_cases b : s.b > lastP
     ·exact absurd (.inr (.inl b)) h6
     by_cases c : s.n < s.b
     ·exact absurd (.inr (.inr (.inl c))) h6
     have hw : IntKind.i64.wrap (s.n - s.b) = s.n - s.b := wrap_in (by omega) (by omega)
     by_cases d : IntKind.i64.wrap (s.n - s.b) > (s.d.length : Int)
     ·exact absurd (.inr (.inr (.inr d))) h6
     rw [hw] at d
     exact ⟨⟨by omega, by omega, by omega, by omega⟩, by omega, by cases g : cameB s; exact absurd g h3; rfl, by cases g : flB s s.fl s.b; exact absurd g h4; rfl⟩
end Go.Proofs.YtalpfhpeaaocmaaGreat.C11
end
section
namespace Go.Proofs.YtalpfhpeaaocmaaGreat.C11
open Sx Go.RowKit C06
def gAns (a : AV) : List D → Option (AV × List Ob) := fun _ => some (a, [])
theorem ckD_sz (l : List Ck) : ∀ e ∈ l.map ckD, e.cells.length = 5 := by
 intro e he
 obtain ⟨x, -, rfl⟩ := List.mem_map.1 he
 rfl
theorem ckD_cloneP (l : List Ck) (hl : l.length < 1073741824) (hne : l.map ckD ≠ []) : FnOK Tryz.prog 75 ([.d (.sl (l.map ckD))]) ([]) (.own 0 5) ([.row 5 (l.map ckD)]) := by
 refine fnOK_wp (p := (rf (D.bool false)) ∧ (List.map ckD l ≠ []) ∧ ((0 + (List.map ckD l).length) * 40 ≤ 140737488355328) ∧ (∀ (e : D), e ∈ List.map ckD l → e.cells.length = 5) ∧ (rf (AV.own 1056 5)) ∧ (Ob.row 5 ([] ++ List.map ckD l) = Ob.row 5 (List.map ckD l)) ∧ True) (h := {H := [(1, [(1, .val (.bool false))])]}) (subs := []) (ws := []) (ρ := []) (by kernel_rfl) ?_
 repeat' (with_reducible first|exact ⟨⟩|apply And.intro|(first|apply zA|apply zB|apply zC|apply zD|apply zE|apply zF|apply zG)<;>intro)
 all_goals first | exact hne | rfl | (simp; omega) | exact ckD_sz _ | skip
theorem ckD_cloneZ (a : Option Addr) (c : Nat) : FnOK Tryz.prog 75 ([.raw (.slice a 0 c)]) ([]) (.own 0 5) ([.row 5 []]) := by
 refine fnOK_wp (p := condP (a.isNone) ((rf (AV.own 900 5)) ∧ (rf (Ob.row 5 [])) ∧ True) ((0 ≤ 140737488355328) ∧ (∀ (e : D), e ∈ [] → e.cells.length = 5) ∧ (rf (AV.own 1056 5)) ∧ (rf (Ob.row 5 [])) ∧ True)) (h := {}) (subs := []) (ws := []) (ρ := []) (by kernel_rfl) ?_
 repeat' (with_reducible first|exact ⟨⟩|apply And.intro|(first|apply zA|apply zB|apply zC|apply zD|apply zE|apply zF|apply zG)<;>intro)
 all_goals first | rfl | (simp; done) | (intro e he; simp at he; done) | skip
theorem ckD_clone (l : List Ck) (hl : l.length < 1073741824) : FnOK Tryz.prog 75 [.d (.sl (l.map ckD))] [] (.own 0 5) [.row 5 (l.map ckD)] := by
 cases l with
 | nil => exact fnOK_nil fun a c => ckD_cloneZ a c
 | cons x r => exact ckD_cloneP (x :: r) hl (by simp)
def ckD_E (a b : List Ck) (j : Nat) : St := ⟨[(0, .d (.sl (a.map ckD))), (1, .d (.sl (b.map ckD))), (13, .d (.int .i64 j)), (12, .d (.int .i64 a.length))], []⟩
def ckD_O : St := ⟨[(4, .d (.bool false))], []⟩
theorem ckD_er (a b : List Ck) (hl : a.length < 1073741824) (j : Nat) (x : Ck) (hx : a[j]? = some x) (hy : b[j]? = some x) : Runs Tryz.prog 0 (loopN Tryz.prog 67 0) (St.as (ckD_E a b j) 26) (.normal) (St.as (ckD_E a b (j+1)) 26) := by
 refine round_wp (p := condP (decide ((↑j : Int) < (↑a.length : Int))) (((0 : Int) ≤ (↑j : Int)) ∧ ((List.map ckD a)[(↑j : Int).toNat]? = some (ckD x)) ∧ ((0 : Int) ≤ (↑j : Int)) ∧ ((List.map ckD b)[(↑j : Int).toNat]? = some (ckD x)) ∧ ((D.bool !(x.f == x.f && (x.t == x.t && (x.s == x.s && (x.r == x.r && (x.l == x.l && true)))))) = D.bool false) ∧ (rf (vL (List.map ckD a))) ∧ (rf (vL (List.map ckD b))) ∧ (vI (IntKind.i64.wrap ((↑j : Int) + (1 : Int))) = vI (↑(j + 1) : Int)) ∧ (rf (vI (↑a.length : Int))) ∧ True) (False)) (h := {els := [(16, .el (ckD x)), (20, .el (ckD x))], H := [(6, [(8, .val (.bool false))])]}) (subs := []) (ws := []) (ρ := []) (by kernel_rfl) ?_
 have hj := get_lt hx
 have hj2 := get_lt hy
 have hi := inc_i64 (j := j) (by omega)
 simp only [List.length_map, hi]
 refine condP_t (by rw [decide_eq_true_eq]; omega) ?_
 repeat' (with_reducible first|exact ⟨⟩|apply And.intro|(first|apply zA|apply zB|apply zC|apply zD|apply zE|apply zF|apply zG)<;>intro)
 all_goals first | exact el_map hx rfl | exact el_map hy rfl | rfl | omega | (refine congrArg D.bool ?_; simp; done) | (exfalso; simp_all; done) | (refine congrArg D.bool ?_; rw [ckD_ne hne]; rfl) | (exfalso; have hq := ckD_ne hne; simp_all; done) | skip
theorem ckD_ee (a b : List Ck) (hl : a.length < 1073741824) (j : Nat) (x y : Ck) (hx : a[j]? = some x) (hy : b[j]? = some y) (hne : x ≠ y) : Runs Tryz.prog 0 (loopN Tryz.prog 67 0) (St.as (ckD_E a b j) 26) (.ret) (St.as (ckD_O) 26) := by
 refine round_wp (p := condP (decide ((↑j : Int) < (↑a.length : Int))) (((0 : Int) ≤ (↑j : Int)) ∧ ((List.map ckD a)[(↑j : Int).toNat]? = some (ckD x)) ∧ ((0 : Int) ≤ (↑j : Int)) ∧ ((List.map ckD b)[(↑j : Int).toNat]? = some (ckD y)) ∧ ((D.bool !(x.f == y.f && (x.t == y.t && (x.s == y.s && (x.r == y.r && (x.l == y.l && true)))))) = D.bool true) ∧ (rf (vB false)) ∧ True) (False)) (h := {els := [(16, .el (ckD x)), (20, .el (ckD y))], H := [(6, [(8, .val (.bool true))])]}) (subs := []) (ws := []) (ρ := []) (by kernel_rfl) ?_
 have hj := get_lt hx
 have hj2 := get_lt hy
 have hi := inc_i64 (j := j) (by omega)
 simp only [List.length_map, hi]
 refine condP_t (by rw [decide_eq_true_eq]; omega) ?_
 repeat' (with_reducible first|exact ⟨⟩|apply And.intro|(first|apply zA|apply zB|apply zC|apply zD|apply zE|apply zF|apply zG)<;>intro)
 all_goals first | exact el_map hx rfl | exact el_map hy rfl | rfl | omega | (refine congrArg D.bool ?_; simp; done) | (exfalso; simp_all; done) | (refine congrArg D.bool ?_; rw [ckD_ne hne]; rfl) | (exfalso; have hq := ckD_ne hne; simp_all; done) | skip
theorem ckD_eq' (a b : List Ck) : Runs Tryz.prog 0 (loopN Tryz.prog 67 0) (St.as (ckD_E a b a.length) 26) (.exit 0) (St.as (ckD_E a b a.length) 26) := by
 refine round_wp (p := condP (decide ((↑a.length : Int) < (↑a.length : Int))) (False) ((rf (vL (List.map ckD a))) ∧ (rf (vL (List.map ckD b))) ∧ (rf (vI (↑a.length : Int))) ∧ (rf (vI (↑a.length : Int))) ∧ True)) (h := {}) (subs := []) (ws := []) (ρ := []) (by kernel_rfl) ?_
 repeat' (with_reducible first|exact ⟨⟩|apply And.intro|(first|apply zA|apply zB|apply zC|apply zD|apply zE|apply zF|apply zG)<;>intro)
 all_goals (try simp only [List.length_map, AV.d.injEq, D.int.injEq, D.bool.injEq, D.str.injEq, D.sl.injEq, true_and, and_true, decide_eq_true_eq, decide_eq_false_iff_not, decide_eq_decide])
 all_goals (try simp only [List.length_map] at *)
 all_goals first | rfl | omega
theorem ckD_el (a b : List Ck) (h : a.length ≠ b.length) : FnOK Tryz.prog 67 ([.d (.sl (a.map ckD)), .d (.sl (b.map ckD))]) ([]) (.d (.bool false)) ([]) := by
 refine fnOK_wp (p := condP ((↑(List.map ckD a).length : Int) != (↑(List.map ckD b).length : Int)) ((rf (vB false)) ∧ True) ((rf (vL (List.map ckD a))) ∧ (rf (vL (List.map ckD b))) ∧ (rf (vI 0)) ∧ (vI (↑(List.map ckD a).length : Int) = vI (↑a.length : Int)) ∧ (LoopsS Tryz.prog 0 (loopN Tryz.prog 67 0) (ckD_E a b 0) Exit.ret ckD_O 26) ∧ (rf (vB false)) ∧ True)) (h := {}) (subs := [⟨[], [], ckD_E a b 0, .ret, ckD_O⟩]) (ws := []) (ρ := []) (by kernel_rfl) ?_
 simp only [List.length_map]
 refine condP_t (by simp; omega) ?_
 first | trivial | exact ⟨rfl, trivial⟩
theorem ckD_ey (a b : List Ck) (h : a.length = b.length) (hL : Loops Tryz.prog 0 (loopN Tryz.prog 67 0) ((ckD_E a b 0).as 26) (.exit 0) ((ckD_E a b a.length).as 26)) : FnOK Tryz.prog 67 ([.d (.sl (a.map ckD)), .d (.sl (b.map ckD))]) ([]) (.d (.bool true)) ([]) := by
 refine fnOK_wp (p := (D.bool ((↑(List.map ckD a).length : Int) != (↑(List.map ckD b).length : Int)) = D.bool false) ∧ (rf (vL (List.map ckD a))) ∧ (rf (vL (List.map ckD b))) ∧ (rf (vI 0)) ∧ (vI (↑(List.map ckD a).length : Int) = vI (↑a.length : Int)) ∧ (LoopsS Tryz.prog 0 (loopN Tryz.prog 67 0) (ckD_E a b 0) (Exit.exit 0) (ckD_E a b a.length) 26) ∧ (rf (vB true)) ∧ True) (h := {H := [(1, [(4, .val (.bool false))])]}) (subs := [⟨[], [], ckD_E a b 0, .exit 0, ckD_E a b a.length⟩]) (ws := []) (ρ := []) (by kernel_rfl) ?_
 simp only [List.length_map]
 repeat' (with_reducible first|exact ⟨⟩|apply And.intro|(first|apply zA|apply zB|apply zC|apply zD|apply zE|apply zF|apply zG)<;>intro)
 all_goals first | exact hL | rfl | exact dno (by omega) | (exfalso; omega) | (refine congrArg D.bool ?_; simp; omega) | skip
theorem ckD_en (a b : List Ck) (h : a.length = b.length) (hL : Loops Tryz.prog 0 (loopN Tryz.prog 67 0) ((ckD_E a b 0).as 26) .ret (ckD_O.as 26)) : FnOK Tryz.prog 67 ([.d (.sl (a.map ckD)), .d (.sl (b.map ckD))]) ([]) (.d (.bool false)) ([]) := by
 refine fnOK_wp (p := (D.bool ((↑(List.map ckD a).length : Int) != (↑(List.map ckD b).length : Int)) = D.bool false) ∧ (rf (vL (List.map ckD a))) ∧ (rf (vL (List.map ckD b))) ∧ (rf (vI 0)) ∧ (vI (↑(List.map ckD a).length : Int) = vI (↑a.length : Int)) ∧ (LoopsS Tryz.prog 0 (loopN Tryz.prog 67 0) (ckD_E a b 0) Exit.ret ckD_O 26) ∧ (rf (vB false)) ∧ True) (h := {H := [(1, [(4, .val (.bool false))])]}) (subs := [⟨[], [], ckD_E a b 0, .ret, ckD_O⟩]) (ws := []) (ρ := []) (by kernel_rfl) ?_
 simp only [List.length_map]
 repeat' (with_reducible first|exact ⟨⟩|apply And.intro|(first|apply zA|apply zB|apply zC|apply zD|apply zE|apply zF|apply zG)<;>intro)
 all_goals first | exact hL | rfl | exact dno (by omega) | (exfalso; omega) | (refine congrArg D.bool ?_; simp; omega) | skip
theorem ckD_equal (a b : List Ck) (hl : a.length < 1073741824) : FnOK Tryz.prog 67 [.d (.sl (a.map ckD)), .d (.sl (b.map ckD))] [] (.d (.bool (decide (a = b)))) [] := by
 by_cases h : a.length = b.length
 ·rcases diff_or a b h with e | ⟨m, x, y, h1, h2, h3, h4⟩
  ·rw [decide_eq_true e]
   refine ckD_ey a b h (loops_n (I := fun j => (ckD_E a b j).as 26) (by simp) a.length 0 (by omega) (fun j _ hj => ckD_er a b hl j a[j] (get_of hj) (by rw [← e]; exact get_of hj)) (ckD_eq' a b))
  ·have hm := get_lt h1
   rw [decide_eq_false (by rintro rfl; rw [h1] at h2; cases h2; exact h3 rfl)]
   exact ckD_en a b h (loops_n (I := fun j => (ckD_E a b j).as 26) (by simp) m 0 (by omega) (fun j _ hj => ckD_er a b hl j (a[j]'(by omega)) (get_of _) (h4 j _ hj (get_of _))) (ckD_ee a b hl m x y h1 h2 h3))
 ·rw [decide_eq_false (by rintro rfl; exact h rfl)]; exact ckD_el a b h
def ckD_IA (g : Nat) (l : List Ck) (j : Nat) : St := ⟨[(0, .d (.sl (l.map ckD))), (1, .fn g []), (7, .d (.int .i64 l.length)), (8, .d (.int .i64 j))], []⟩
def ckD_IOA (g : Nat) (m : Int) : St := ⟨[(4, .d (.int .i64 m))], []⟩
theorem ckD_irA (g : Nat) (l : List Ck) (hl : l.length < 1073741824) (j : Nat) (x : Ck) (hn : l[j]? = some x) (hx : FnOK Tryz.prog g [.d (ckD x)] [] (.d (.bool false)) []) : Runs Tryz.prog 0 (loopN Tryz.prog 79 0) (St.as (ckD_IA g l j) 19) (.normal) (St.as (ckD_IA g l (j+1)) 19) := by
 refine round_wp (p := condP (decide ((↑j : Int) < (↑l.length : Int))) (((0 : Int) ≤ (↑j : Int)) ∧ ((List.map ckD l)[(↑j : Int).toNat]? = some (ckD x)) ∧ (FnOK Tryz.prog g [AV.d (ckD x)] [] (vB false) []) ∧ (rf (vL (List.map ckD l))) ∧ (rf (AV.fn g [])) ∧ (rf (vI (↑l.length : Int))) ∧ (vI (IntKind.i64.wrap ((↑j : Int) + (1 : Int))) = vI (↑(j + 1) : Int)) ∧ True) (False)) (h := {els := [(12, .el (ckD x)), (11, .call [] (.d (.bool false)) [])]}) (subs := []) (ws := []) (ρ := []) (by kernel_rfl) ?_
 have hj := get_lt hn
 have hi := inc_i64 (j := j) (by omega)
 try simp only [hi]
 refine condP_t (by rw [decide_eq_true_eq]; omega) ?_
 repeat' (with_reducible first|exact ⟨⟩|apply And.intro|(first|apply zA|apply zB|apply zC|apply zD|apply zE|apply zF|apply zG)<;>intro)
 all_goals first | exact hx | exact el_map hn rfl | rfl | omega | skip
theorem ckD_ieA (g : Nat) (l : List Ck) (hl : l.length < 1073741824) (j : Nat) (x : Ck) (hn : l[j]? = some x) (hx : FnOK Tryz.prog g [.d (ckD x)] [] (.d (.bool true)) []) : Runs Tryz.prog 0 (loopN Tryz.prog 79 0) (St.as (ckD_IA g l j) 19) (.ret) (St.as (ckD_IOA g j) 19) := by
 refine round_wp (p := condP (decide ((↑j : Int) < (↑l.length : Int))) (((0 : Int) ≤ (↑j : Int)) ∧ ((List.map ckD l)[(↑j : Int).toNat]? = some (ckD x)) ∧ (FnOK Tryz.prog g [AV.d (ckD x)] [] (vB true) []) ∧ (rf (vI (↑j : Int))) ∧ True) (False)) (h := {els := [(12, .el (ckD x)), (11, .call [] (.d (.bool true)) [])]}) (subs := []) (ws := []) (ρ := []) (by kernel_rfl) ?_
 have hj := get_lt hn
 have hi := inc_i64 (j := j) (by omega)
 try simp only [hi]
 refine condP_t (by rw [decide_eq_true_eq]; omega) ?_
 repeat' (with_reducible first|exact ⟨⟩|apply And.intro|(first|apply zA|apply zB|apply zC|apply zD|apply zE|apply zF|apply zG)<;>intro)
 all_goals first | exact hx | exact el_map hn rfl | rfl | omega | skip
theorem ckD_iqA (g : Nat) (l : List Ck) : Runs Tryz.prog 0 (loopN Tryz.prog 79 0) (St.as (ckD_IA g l l.length) 19) (.exit 0) (St.as (ckD_IA g l l.length) 19) := by
 refine round_wp (p := condP (decide ((↑l.length : Int) < (↑l.length : Int))) (False) ((rf (vL (List.map ckD l))) ∧ (rf (AV.fn g [])) ∧ (rf (vI (↑l.length : Int))) ∧ (rf (vI (↑l.length : Int))) ∧ True)) (h := {}) (subs := []) (ws := []) (ρ := []) (by kernel_rfl) ?_
 repeat' (with_reducible first|exact ⟨⟩|apply And.intro|(first|apply zA|apply zB|apply zC|apply zD|apply zE|apply zF|apply zG)<;>intro)
 all_goals (try simp only [List.length_map, AV.d.injEq, D.int.injEq, D.bool.injEq, D.str.injEq, D.sl.injEq, true_and, and_true, decide_eq_true_eq, decide_eq_false_iff_not, decide_eq_decide])
 all_goals (try simp only [List.length_map] at *)
 all_goals first | rfl | omega
theorem ckD_inA (g : Nat) (l : List Ck) (hL : Loops Tryz.prog 0 (loopN Tryz.prog 79 0) ((ckD_IA g l 0).as 19) (.exit 0) ((ckD_IA g l l.length).as 19)) : FnOK Tryz.prog 79 ([.d (.sl (l.map ckD)), .fn g []]) ([]) (.d (.int .i64 (-1))) ([]) := by
 refine fnOK_wp (p := (rf (vL (List.map ckD l))) ∧ (rf (AV.fn g [])) ∧ (vI (↑(List.map ckD l).length : Int) = vI (↑l.length : Int)) ∧ (rf (vI 0)) ∧ (LoopsS Tryz.prog 0 (loopN Tryz.prog 79 0) (ckD_IA g l 0) (Exit.exit 0) (ckD_IA g l l.length) 19) ∧ (rf (vI (-1 : Int))) ∧ True) (h := {}) (subs := [⟨[], [], ckD_IA g l 0, .exit 0, ckD_IA g l l.length⟩]) (ws := []) (ρ := []) (by kernel_rfl) ?_
 simp only [List.length_map]
 repeat' (with_reducible first|exact ⟨⟩|apply And.intro|(first|apply zA|apply zB|apply zC|apply zD|apply zE|apply zF|apply zG)<;>intro)
 all_goals first | exact hL | rfl | skip
theorem ckD_iyA (g : Nat) (l : List Ck) (m : Nat) (hL : Loops Tryz.prog 0 (loopN Tryz.prog 79 0) ((ckD_IA g l 0).as 19) .ret ((ckD_IOA g m).as 19)) : FnOK Tryz.prog 79 ([.d (.sl (l.map ckD)), .fn g []]) ([]) (.d (.int .i64 m)) ([]) := by
 refine fnOK_wp (p := (rf (vL (List.map ckD l))) ∧ (rf (AV.fn g [])) ∧ (vI (↑(List.map ckD l).length : Int) = vI (↑l.length : Int)) ∧ (rf (vI 0)) ∧ (LoopsS Tryz.prog 0 (loopN Tryz.prog 79 0) (ckD_IA g l 0) Exit.ret (ckD_IOA g (↑m : Int)) 19) ∧ (rf (vI (↑m : Int))) ∧ True) (h := {}) (subs := [⟨[], [], ckD_IA g l 0, .ret, ckD_IOA g m⟩]) (ws := []) (ρ := []) (by kernel_rfl) ?_
 simp only [List.length_map]
 repeat' (with_reducible first|exact ⟨⟩|apply And.intro|(first|apply zA|apply zB|apply zC|apply zD|apply zE|apply zF|apply zG)<;>intro)
 all_goals first | exact hL | rfl | skip
theorem ckD_firstA (g : Nat) (F : Ck → Bool) (l : List Ck) (hl : l.length < 1073741824) (hF : ∀ x ∈ l, FnOK Tryz.prog g [.d (ckD x)] [] (.d (.bool (F x))) []) :
  ((∀ x ∈ l, F x = false) ∧ FnOK Tryz.prog 79 [.d (.sl (l.map ckD)), .fn g []] [] (.d (.int .i64 (-1))) []) ∨ ∃ (m : Nat) (x : Ck), l[m]? = some x ∧ F x = true ∧ (∀ (j : Nat) (y : Ck), j < m → l[j]? = some y → F y = false) ∧ FnOK Tryz.prog 79 [.d (.sl (l.map ckD)), .fn g []] [] (.d (.int .i64 m)) [] := by
 rcases all_or (fun x => F x = false) l with h | ⟨m, x, h1, h2, h3⟩
 ·exact .inl ⟨h, ckD_inA g l (loops_n (I := fun j => (ckD_IA g l j).as 19) (by simp) l.length 0 (by omega) (fun j _ hj => ckD_irA g l hl j l[j] (get_of hj) (by have := hF _ (List.getElem_mem hj); rw [h _ (List.getElem_mem hj)] at this; exact this)) (ckD_iqA g l))⟩
 ·have hm := get_lt h1
  have h2 : F x = true := by cases hw : F x; exact absurd hw h2; rfl
  exact .inr ⟨m, x, h1, h2, h3, ckD_iyA g l m (loops_n (I := fun j => (ckD_IA g l j).as 19) (by simp) m 0 (by omega) (fun j _ hj => ckD_irA g l hl j (l[j]'(by omega)) (get_of _) (by have := hF (l[j]'(by omega)) (List.getElem_mem _); rw [h3 j _ hj (get_of _)] at this; exact this)) (ckD_ieA g l hl m x h1 (by have := hF _ (get_mem h1); rw [h2] at this; exact this)))⟩
theorem size37 (c : Ck) (k1 k2 : True) : FnOK Tryz.prog 81 ([.d (ckD c)]) ([]) (.d (.int .i64 (cSz c))) ([]) := by
 refine fnOK_wp (p := (vI (IntKind.i64.wrap (c.t - c.f)) = vI (cSz c)) ∧ True) (h := {}) (subs := []) (ws := []) (ρ := []) (by kernel_rfl) ?_
 repeat' (with_reducible first|exact ⟨⟩|apply And.intro|(first|apply zA|apply zB|apply zC|apply zD|apply zE|apply zF|apply zG)<;>intro)
 all_goals first | exact k1 | exact k2 | rfl | omega | exact dyes ‹_› | exact dno ‹_› | skip
theorem ival74 (c : Ck) (k1 k2 : True) : FnOK Tryz.prog 104 ([.d (ckD c)]) ([]) (.d (ivD (ckI c))) ([]) := by
 refine fnOK_wp (p := (AV.d (.agg [D.int .i64 c.f, D.int .i64 c.t]) = AV.d (.agg [D.int .i64 (ckI c).fst, D.int .i64 (ckI c).snd])) ∧ True) (h := {}) (subs := []) (ws := []) (ρ := []) (by kernel_rfl) ?_
 repeat' (with_reducible first|exact ⟨⟩|apply And.intro|(first|apply zA|apply zB|apply zC|apply zD|apply zE|apply zF|apply zG)<;>intro)
 all_goals first | exact k1 | exact k2 | rfl | omega | exact dyes ‹_› | exact dno ‹_› | skip
theorem tick34 (n : Int) (k1 k2 : True) : FnOK Tryz.prog 77 ([.d (.int .i64 n)]) ([]) (.d (.bool (tickB n))) ([]) := by
 refine fnOK_wp (p := condP (decide ((0 : Int) ≤ n)) ((D.bool (decide ((0 : Int) ≤ n)) = D.bool true) ∧ (vB (decide (n ≤ (1099511627776 : Int))) = vB (tickB n)) ∧ True) ((D.bool (decide ((0 : Int) ≤ n)) = D.bool false) ∧ (vB false = vB (tickB n)) ∧ True)) (h := {}) (subs := []) (ws := []) (ρ := []) (by kernel_rfl) ?_
 unfold tickB
 repeat' (with_reducible first|exact ⟨⟩|apply And.intro|(first|apply zA|apply zB|apply zC|apply zD|apply zE|apply zF|apply zG)<;>intro)
 all_goals first | rfl | exact dyes ‹_› | exact dno ‹_› | (rw [decide_eq_false (p := 0 ≤ n) (by assumption)]; rfl) | (rw [decide_eq_true (p := 0 ≤ n) (by assumption)]; rfl) | skip
theorem room26 (s : Sq) (k1 k2 : True) : FnOK Tryz.prog 37 ([.d (sqD s)]) ([]) (.d (.int .i64 (IntKind.i64.wrap (4096 - (s.d.length : Int))))) ([]) := by
 refine fnOK_wp (p := (rf (vI (IntKind.i64.wrap ((4096 : Int) - (↑s.d.length : Int))))) ∧ True) (h := {}) (subs := []) (ws := []) (ρ := []) (by kernel_rfl) ?_
 repeat' (with_reducible first|exact ⟨⟩|apply And.intro|(first|apply zA|apply zB|apply zC|apply zD|apply zE|apply zF|apply zG)<;>intro)
 all_goals first | exact k1 | exact k2 | rfl | omega | exact dyes ‹_› | exact dno ‹_› | skip
theorem lost36 (c : Ck) (k1 k2 : True) : FnOK Tryz.prog 80 ([.d (ckD c)]) ([]) (.d (.bool c.l)) ([]) := by
 refine fnOK_wp (p := (rf (vB c.l)) ∧ True) (h := {}) (subs := []) (ws := []) (ρ := []) (by kernel_rfl) ?_
 repeat' (with_reducible first|exact ⟨⟩|apply And.intro|(first|apply zA|apply zB|apply zC|apply zD|apply zE|apply zF|apply zG)<;>intro)
 all_goals first | exact k1 | exact k2 | rfl | omega | exact dyes ‹_› | exact dno ‹_› | skip
theorem new30 (k1 k2 : True) : FnOK Tryz.prog 40 ([]) ([]) (.d (sqD ⟨0, [], 0, [], []⟩)) ([]) := by
 refine fnOK_wp (p := (rf (AV.d (.agg [D.int .i64 0, D.str [], D.int .i64 0, D.sl [], D.sl []]))) ∧ True) (h := {}) (subs := []) (ws := []) (ρ := []) (by kernel_rfl) ?_
 repeat' (with_reducible first|exact ⟨⟩|apply And.intro|(first|apply zA|apply zB|apply zC|apply zD|apply zE|apply zF|apply zG)<;>intro)
 all_goals first | exact k1 | exact k2 | rfl | omega | exact dyes ‹_› | exact dno ‹_› | skip
theorem text39 (s : Sq) (c : Ck) (x y : Int) (hx : IntKind.i64.wrap (c.f - s.b) = x) (hy : IntKind.i64.wrap (c.t - s.b) = y) (h0 : 0 ≤ x) (h1 : x ≤ y) (h2 : y ≤ s.d.length) : FnOK Tryz.prog 83 ([.d (sqD s), .d (ckD c)]) ([]) (.d (.str ((s.d.drop x.toNat).take (y.toNat - x.toNat)))) ([]) := by
 refine fnOK_wp (p := (D.int .i64 (IntKind.i64.wrap (c.f - s.b)) = D.int .i64 x) ∧ (D.int .i64 (IntKind.i64.wrap (c.t - s.b)) = D.int .i64 y) ∧ ((0 : Int) ≤ x ∧ x ≤ y ∧ y ≤ (↑s.d.length : Int)) ∧ (vS (List.drop x.toNat (List.take y.toNat s.d)) = vS (List.take (y.toNat - x.toNat) (List.drop x.toNat s.d))) ∧ True) (h := {H := [(1, [(6, .val (.int .i64 x)), (11, .val (.int .i64 y))])]}) (subs := []) (ws := []) (ρ := []) (by kernel_rfl) ?_
 repeat' (with_reducible first|exact ⟨⟩|apply And.intro|(first|apply zA|apply zB|apply zC|apply zD|apply zE|apply zF|apply zG)<;>intro)
 all_goals first | exact congrArg (D.int .i64) hx | exact congrArg (D.int .i64) hy | rfl | omega | (refine congrArg (fun z => AV.d (.str z)) ?_; rw [List.drop_take]; done) | skip
end Go.Proofs.YtalpfhpeaaocmaaGreat.C11
end
section
namespace Go.Proofs.YtalpfhpeaaocmaaGreat.C11
open Sx Go.RowKit C06
def sqB (s : Sq) : Ob := .box [.d (.int .i64 s.b), .d (.str s.d), .d (.int .i64 s.n), .d (.sl (s.fl.map ckD)), .d (.sl (s.cm.map ivD))]
def I61 (s : Sq) (j : Nat) : St := ⟨[(1, .ptr 0 0), (10, .d (.sl (s.cm.map ivD))), (11, .d (.int .i64 s.cm.length)), (12, .d (.int .i64 j))], [(0, sqB s)]⟩
theorem r61 (s : Sq) (hl : s.cm.length < 1000000) (j : Nat) (x : Iv) (hn : s.cm[j]? = some x) (h1 : ¬x.1 ≤ s.b) (h2 : ¬x.2 > s.n) : Runs Tryz.prog 0 (loopN Tryz.prog 73 0) (St.as (I61 s j) 29) (.normal) (St.as (I61 s (j+1)) 29) := by
 refine round_wp (p := condP (decide ((↑j : Int) < (↑s.cm.length : Int))) (((0 : Int) ≤ (↑j : Int)) ∧ ((List.map ivD s.cm)[(↑j : Int).toNat]? = some (ivD x)) ∧ (D.bool (decide (x.fst ≤ s.b)) = D.bool false) ∧ (D.bool (decide (x.snd > s.n)) = D.bool false) ∧ (rf (AV.ptr 0 0)) ∧ (rf (vL (List.map ivD s.cm))) ∧ (rf (vI (↑s.cm.length : Int))) ∧ (vI (IntKind.i64.wrap ((↑j : Int) + (1 : Int))) = vI (↑(j + 1) : Int)) ∧ (rf (Ob.box [vI s.b, vS s.d, vI s.n, vL (List.map ckD s.fl), vL (List.map ivD s.cm)])) ∧ True) (False)) (h := {els := [(10, .el (ivD x))], H := [(6, [(5, .val (.bool false)), (10, .val (.bool false))])]}) (subs := []) (ws := []) (ρ := []) (by kernel_rfl) ?_
 have hj := get_lt hn
 have hi := inc_i64 (j := j) (by omega)
 try simp only [hi]
 refine condP_t (by rw [decide_eq_true_eq]; omega) ?_
 repeat' (with_reducible first|exact ⟨⟩|apply And.intro|(first|apply zA|apply zB|apply zC|apply zD|apply zE|apply zF|apply zG)<;>intro)
 all_goals first | exact el_map hn rfl | rfl | omega | exact dyes (by omega) | exact dno (by omega) | skip
theorem e61a (s : Sq) (hl : s.cm.length < 1000000) (j : Nat) (x : Iv) (hn : s.cm[j]? = some x) (h1 : x.1 ≤ s.b) : Runs Tryz.prog 0 (loopN Tryz.prog 73 0) (St.as (I61 s j) 29) (.ret) (St.as (⟨[(2, .d (.bool false))], []⟩) 29) := by
 refine round_wp (p := condP (decide ((↑j : Int) < (↑s.cm.length : Int))) (((0 : Int) ≤ (↑j : Int)) ∧ ((List.map ivD s.cm)[(↑j : Int).toNat]? = some (ivD x)) ∧ (D.bool (decide (x.fst ≤ s.b)) = D.bool true) ∧ (rf (vB false)) ∧ True) (False)) (h := {els := [(10, .el (ivD x))], H := [(6, [(5, .val (.bool true))])]}) (subs := []) (ws := []) (ρ := []) (by kernel_rfl) ?_
 have hj := get_lt hn
 have hi := inc_i64 (j := j) (by omega)
 try simp only [hi]
 refine condP_t (by rw [decide_eq_true_eq]; omega) ?_
 repeat' (with_reducible first|exact ⟨⟩|apply And.intro|(first|apply zA|apply zB|apply zC|apply zD|apply zE|apply zF|apply zG)<;>intro)
 all_goals first | exact el_map hn rfl | rfl | omega | exact dyes (by omega) | exact dno (by omega) | skip
theorem e61b (s : Sq) (hl : s.cm.length < 1000000) (j : Nat) (x : Iv) (hn : s.cm[j]? = some x) (h1 : ¬x.1 ≤ s.b) (h2 : x.2 > s.n) : Runs Tryz.prog 0 (loopN Tryz.prog 73 0) (St.as (I61 s j) 29) (.ret) (St.as (⟨[(2, .d (.bool false))], []⟩) 29) := by
 refine round_wp (p := condP (decide ((↑j : Int) < (↑s.cm.length : Int))) (((0 : Int) ≤ (↑j : Int)) ∧ ((List.map ivD s.cm)[(↑j : Int).toNat]? = some (ivD x)) ∧ (D.bool (decide (x.fst ≤ s.b)) = D.bool false) ∧ (D.bool (decide (x.snd > s.n)) = D.bool true) ∧ (rf (vB false)) ∧ True) (False)) (h := {els := [(10, .el (ivD x))], H := [(6, [(5, .val (.bool false)), (10, .val (.bool true))])]}) (subs := []) (ws := []) (ρ := []) (by kernel_rfl) ?_
 have hj := get_lt hn
 have hi := inc_i64 (j := j) (by omega)
 try simp only [hi]
 refine condP_t (by rw [decide_eq_true_eq]; omega) ?_
 repeat' (with_reducible first|exact ⟨⟩|apply And.intro|(first|apply zA|apply zB|apply zC|apply zD|apply zE|apply zF|apply zG)<;>intro)
 all_goals first | exact el_map hn rfl | rfl | omega | exact dyes (by omega) | exact dno (by omega) | skip
theorem q61 (s : Sq) : Runs Tryz.prog 0 (loopN Tryz.prog 73 0) (St.as (I61 s s.cm.length) 29) (.exit 0) (St.as (I61 s s.cm.length) 29) := by
 refine round_wp (p := condP (decide ((↑s.cm.length : Int) < (↑s.cm.length : Int))) (False) ((rf (AV.ptr 0 0)) ∧ (rf (vL (List.map ivD s.cm))) ∧ (rf (vI (↑s.cm.length : Int))) ∧ (rf (vI (↑s.cm.length : Int))) ∧ (rf (Ob.box [vI s.b, vS s.d, vI s.n, vL (List.map ckD s.fl), vL (List.map ivD s.cm)])) ∧ True)) (h := {}) (subs := []) (ws := []) (ρ := []) (by kernel_rfl) ?_
 repeat' (with_reducible first|exact ⟨⟩|apply And.intro|(first|apply zA|apply zB|apply zC|apply zD|apply zE|apply zF|apply zG)<;>intro)
 all_goals first | rfl | omega
theorem cam61a (s : Sq) (e : Int) (he : e ≠ 0) (k1 : FnOK Tryz.prog 102 [.d (.sl (s.cm.map ivD))] [] (.d (.int .i64 e)) []) : FnOK Tryz.prog 73 ([.d (sqD s)]) ([]) (.d (.bool false)) ([]) := by
 refine fnOK_wp (p := (FnOK Tryz.prog 102 [vL (List.map ivD s.cm)] [] (vI e) []) ∧ (D.bool (e != (0 : Int)) = D.bool true) ∧ (rf (vB false)) ∧ True) (h := {H := [(1, [(2, .call [] (.d (.int .i64 e)) []), (3, .val (.bool true))])]}) (subs := []) (ws := []) (ρ := []) (by kernel_rfl) ?_
 repeat' (with_reducible first|exact ⟨⟩|apply And.intro|(first|apply zA|apply zB|apply zC|apply zD|apply zE|apply zF|apply zG)<;>intro)
 all_goals first | exact k1 | rfl | (refine congrArg D.bool ?_; simp [he]; done) | skip
theorem cam61y (s : Sq) (k1 : FnOK Tryz.prog 102 [.d (.sl (s.cm.map ivD))] [] (.d (.int .i64 0)) []) (hL : Loops Tryz.prog 0 (loopN Tryz.prog 73 0) ((I61 s 0).as 29) (.exit 0) ((I61 s s.cm.length).as 29)) : FnOK Tryz.prog 73 ([.d (sqD s)]) ([]) (.d (.bool true)) ([]) := by
 refine fnOK_wp (p := (FnOK Tryz.prog 102 [vL (List.map ivD s.cm)] [] (vI 0) []) ∧ (rf (D.bool false)) ∧ (rf (AV.ptr 1008 0)) ∧ (rf (vL (List.map ivD s.cm))) ∧ (vI (↑(List.map ivD s.cm).length : Int) = vI (↑s.cm.length : Int)) ∧ (rf (vI 0)) ∧ (rf (Ob.box [vI s.b, vS s.d, vI s.n, vL (List.map ckD s.fl), vL (List.map ivD s.cm)])) ∧ (LoopsS Tryz.prog 0 (loopN Tryz.prog 73 0) (I61 s 0) (Exit.exit 0) (I61 s s.cm.length) 29) ∧ (rf (vB true)) ∧ True) (h := {H := [(1, [(2, .call [] (.d (.int .i64 0)) []), (3, .val (.bool false))])]}) (subs := [⟨[], [], I61 s 0, .exit 0, I61 s s.cm.length⟩]) (ws := []) (ρ := []) (by kernel_rfl) ?_
 simp only [List.length_map]
 repeat' (with_reducible first|exact ⟨⟩|apply And.intro|(first|apply zA|apply zB|apply zC|apply zD|apply zE|apply zF|apply zG)<;>intro)
 all_goals first | exact k1 | exact hL | rfl | skip
theorem cam61n (s : Sq) (k1 : FnOK Tryz.prog 102 [.d (.sl (s.cm.map ivD))] [] (.d (.int .i64 0)) []) (hL : Loops Tryz.prog 0 (loopN Tryz.prog 73 0) ((I61 s 0).as 29) .ret ((⟨[(2, .d (.bool false))], []⟩ : St).as 29)) : FnOK Tryz.prog 73 ([.d (sqD s)]) ([]) (.d (.bool false)) ([]) := by
 refine fnOK_wp (p := (FnOK Tryz.prog 102 [vL (List.map ivD s.cm)] [] (vI 0) []) ∧ (rf (D.bool false)) ∧ (rf (AV.ptr 1008 0)) ∧ (rf (vL (List.map ivD s.cm))) ∧ (vI (↑(List.map ivD s.cm).length : Int) = vI (↑s.cm.length : Int)) ∧ (rf (vI 0)) ∧ (rf (Ob.box [vI s.b, vS s.d, vI s.n, vL (List.map ckD s.fl), vL (List.map ivD s.cm)])) ∧ (LoopsS Tryz.prog 0 (loopN Tryz.prog 73 0) (I61 s 0) Exit.ret (St.mk [(2, vB false)] []) 29) ∧ (rf (vB false)) ∧ True) (h := {H := [(1, [(2, .call [] (.d (.int .i64 0)) []), (3, .val (.bool false))])]}) (subs := [⟨[], [], I61 s 0, .ret, ⟨[(2, .d (.bool false))], []⟩⟩]) (ws := []) (ρ := []) (by kernel_rfl) ?_
 simp only [List.length_map]
 repeat' (with_reducible first|exact ⟨⟩|apply And.intro|(first|apply zA|apply zB|apply zC|apply zD|apply zE|apply zF|apply zG)<;>intro)
 all_goals first | exact k1 | exact hL | rfl | skip
theorem camB_t {s : Sq} {x : Iv} (h : camB s x = true) : ¬x.1 ≤ s.b ∧ ¬x.2 > s.n := by
 unfold camB at h
 simpa using h
theorem came61 (s : Sq) (hl : s.cm.length < 1000000) : FnOK Tryz.prog 73 [.d (sqD s)] [] (.d (.bool (cameB s))) [] := by
 have k1 := chk19 s.cm hl
 unfold cameB
 by_cases h0 : iChk s.cm = 0
 ·rw [h0] at k1
  rw [decide_eq_true h0, Bool.true_and]
  rcases all_or (fun x => camB s x = true) s.cm with h | ⟨m, x, h1, h2, h3⟩
  ·rw [List.all_eq_true.2 h]
   exact cam61y s k1 (loops_n (I := fun j => (I61 s j).as 29) (by simp) s.cm.length 0 (by omega) (fun j _ hj => by
    obtain ⟨a, b⟩ := camB_t (h s.cm[j] (List.getElem_mem hj))
    exact r61 s hl j _ (get_of hj) a b) (q61 s))
  ·have hm := get_lt h1
   have e : s.cm.all (camB s) = false := by
    cases g : s.cm.all (camB s)
    ·rfl
    ·exact absurd (List.all_eq_true.1 g x (get_mem h1)) h2
   rw [e]
   refine cam61n s k1 (loops_n (I := fun j => (I61 s j).as 29) (by simp) m 0 (by omega) (fun j _ hj => by
    obtain ⟨a, b⟩ := camB_t (h3 j (s.cm[j]'(by omega)) hj (get_of _))
    exact r61 s hl j _ (get_of _) a b) ?_)
   by_cases a : x.1 ≤ s.b
   ·exact e61a s hl m x h1 a
   ·refine e61b s hl m x h1 a ?_
    by_cases b : x.2 > s.n
    ·exact b
    ·exact absurd (show camB s x = true by unfold camB; simp; omega) h2
 ·rw [decide_eq_false h0, Bool.false_and]
  exact cam61a s _ h0 k1
theorem fits62a (s : Sq) (c : Ck) (a : Int) (k1 : FnOK Tryz.prog 81 [.d (ckD c)] [] (.d (.int .i64 (cSz c))) []) (h : c.f < a ∨ c.t > s.n ∨ c.f ≥ c.t ∨ cSz c > 48) (k2 k3 k4 hq : True) : FnOK Tryz.prog 74 ([.d (sqD s), .d (ckD c), .d (.int .i64 a)]) ([]) (.d (.bool false)) ([]) := by
 refine fnOK_wp (p := condP (decide (c.f < a)) ((D.bool (decide (c.f < a)) = D.bool true) ∧ (rf (D.bool true)) ∧ (rf (D.bool true)) ∧ (rf (D.bool true)) ∧ (rf (vB false)) ∧ True) (condP (decide (c.t > s.n)) ((D.bool (decide (c.f < a)) = D.bool false) ∧ (D.bool (decide (c.t > s.n)) = D.bool true) ∧ (rf (D.bool true)) ∧ (rf (D.bool true)) ∧ (rf (vB false)) ∧ True) (condP (decide (c.f ≥ c.t)) ((D.bool (decide (c.f < a)) = D.bool false) ∧ (D.bool (decide (c.t > s.n)) = D.bool false) ∧ (D.bool (decide (c.f ≥ c.t)) = D.bool true) ∧ (rf (D.bool true)) ∧ (rf (vB false)) ∧ True) ((D.bool (decide (c.f < a)) = D.bool false) ∧ (D.bool (decide (c.t > s.n)) = D.bool false) ∧ (D.bool (decide (c.f ≥ c.t)) = D.bool false) ∧ (FnOK Tryz.prog 81 [AV.d (ckD c)] [] (vI (cSz c)) []) ∧ (D.bool (decide (cSz c > (48 : Int))) = D.bool true) ∧ (rf (vB false)) ∧ True)))) (h := {G := [(81, gAns (.d (.int .i64 (cSz c)))), (104, gAns (.d (ivD (ckI c)))), (103, gAns (.d (.sl []))), (77, gAns (.d (.bool false)))], H := [(1, [(22, .val (.bool true))])]}) (subs := []) (ws := []) (ρ := []) (by kernel_rfl) ?_
 repeat' (with_reducible first|exact ⟨⟩|apply And.intro|(first|apply zA|apply zB|apply zC|apply zD|apply zE|apply zF|apply zG)<;>intro)
 all_goals first | exact k1 | exact k2 | exact k3 | exact k4 | rfl | omega | exact dyes (by omega) | exact dno (by omega) | (refine congrArg D.bool ?_; exact hq) | (exfalso; omega) | (refine congrArg (fun z => AV.d (.bool z)) ?_; simp_all; done) | (refine congrArg D.bool ?_; simp_all; done) | skip
theorem fits62b (s : Sq) (c : Ck) (a : Int) (k1 : FnOK Tryz.prog 81 [.d (ckD c)] [] (.d (.int .i64 (cSz c))) []) (h : ¬(c.f < a ∨ c.t > s.n ∨ c.f ≥ c.t ∨ cSz c > 48)) (g : List Iv) (k2 : FnOK Tryz.prog 103 [.d (.sl (s.cm.map ivD)), .d (ivD (ckI c))] [] (.d (.sl (g.map ivD))) []) (k3 : FnOK Tryz.prog 104 [.d (ckD c)] [] (.d (ivD (ckI c))) []) (k4 : FnOK Tryz.prog 77 [.d (.int .i64 c.s)] [] (.d (.bool (tickB c.s))) []) (ht : timB c = false) (hq : True) : FnOK Tryz.prog 74 ([.d (sqD s), .d (ckD c), .d (.int .i64 a)]) ([]) (.d (.bool false)) ([]) := by
 refine fnOK_wp (p := (D.bool (decide (c.f < a)) = D.bool false) ∧ (D.bool (decide (c.t > s.n)) = D.bool false) ∧ (D.bool (decide (c.f ≥ c.t)) = D.bool false) ∧ (FnOK Tryz.prog 81 [AV.d (ckD c)] [] (vI (cSz c)) []) ∧ (D.bool (decide (cSz c > (48 : Int))) = D.bool false) ∧ (FnOK Tryz.prog 104 [AV.d (ckD c)] [] (AV.d (.agg [D.int .i64 (ckI c).fst, D.int .i64 (ckI c).snd])) []) ∧ (FnOK Tryz.prog 103 [vL (List.map ivD s.cm), AV.d (.agg [D.int .i64 (ckI c).fst, D.int .i64 (ckI c).snd])] [] (vL (List.map ivD g)) []) ∧ (condP (tickB c.s) (condP (decide (c.r > (0 : Int))) ((FnOK Tryz.prog 77 [vI c.s] [] (vB (tickB c.s)) []) ∧ (D.bool (tickB c.s) = D.bool true) ∧ (D.bool (decide (c.r > (0 : Int))) = D.bool true) ∧ (D.bool (decide (c.r ≤ (1073741824 : Int))) = D.bool false) ∧ (rf (D.bool false)) ∧ (rf (vB false)) ∧ True) ((FnOK Tryz.prog 77 [vI c.s] [] (vB (tickB c.s)) []) ∧ (D.bool (tickB c.s) = D.bool true) ∧ (D.bool (decide (c.r > (0 : Int))) = D.bool false) ∧ (rf (D.bool false)) ∧ (rf (D.bool false)) ∧ (rf (vB false)) ∧ True)) ((FnOK Tryz.prog 77 [vI c.s] [] (vB (tickB c.s)) []) ∧ (D.bool (tickB c.s) = D.bool false) ∧ (rf (D.bool false)) ∧ (rf (D.bool false)) ∧ (rf (D.bool false)) ∧ (rf (vB false)) ∧ True))) (h := {G := [(81, gAns (.d (.int .i64 (cSz c))))], H := [(1, [(4, .val (.bool false)), (11, .val (.bool false)), (18, .val (.bool false)), (22, .val (.bool false))]), (3, [(3, .call [] (.d (ivD (ckI c))) []), (4, .call [] (.d (.sl (g.map ivD))) [])]), (4, [(2, .call [] (.d (.bool (tickB c.s))) []), (13, .val (.bool false))])]}) (subs := []) (ws := []) (ρ := []) (by kernel_rfl) ?_
 unfold timB at ht
 repeat' (with_reducible first|exact ⟨⟩|apply And.intro|(first|apply zA|apply zB|apply zC|apply zD|apply zE|apply zF|apply zG)<;>intro)
 all_goals first | exact k1 | exact k2 | exact k3 | exact k4 | rfl | omega | exact dyes (by omega) | exact dno (by omega) | (refine congrArg D.bool ?_; exact hq) | (exfalso; omega) | (refine congrArg (fun z => AV.d (.bool z)) ?_; simp_all; done) | (refine congrArg D.bool ?_; simp_all; done) | skip
theorem fits62c (s : Sq) (c : Ck) (a : Int) (k1 : FnOK Tryz.prog 81 [.d (ckD c)] [] (.d (.int .i64 (cSz c))) []) (h : ¬(c.f < a ∨ c.t > s.n ∨ c.f ≥ c.t ∨ cSz c > 48)) (g : List Iv) (k2 : FnOK Tryz.prog 103 [.d (.sl (s.cm.map ivD)), .d (ivD (ckI c))] [] (.d (.sl (g.map ivD))) []) (k3 : FnOK Tryz.prog 104 [.d (ckD c)] [] (.d (ivD (ckI c))) []) (k4 : FnOK Tryz.prog 77 [.d (.int .i64 c.s)] [] (.d (.bool (tickB c.s))) []) (ht : timB c = true) (hg : ¬(g.length : Int) = 1) (hq : True) : FnOK Tryz.prog 74 ([.d (sqD s), .d (ckD c), .d (.int .i64 a)]) ([]) (.d (.bool false)) ([]) := by
 refine fnOK_wp (p := (D.bool (decide (c.f < a)) = D.bool false) ∧ (D.bool (decide (c.t > s.n)) = D.bool false) ∧ (D.bool (decide (c.f ≥ c.t)) = D.bool false) ∧ (FnOK Tryz.prog 81 [AV.d (ckD c)] [] (vI (cSz c)) []) ∧ (D.bool (decide (cSz c > (48 : Int))) = D.bool false) ∧ (FnOK Tryz.prog 104 [AV.d (ckD c)] [] (AV.d (.agg [D.int .i64 (ckI c).fst, D.int .i64 (ckI c).snd])) []) ∧ (FnOK Tryz.prog 103 [vL (List.map ivD s.cm), AV.d (.agg [D.int .i64 (ckI c).fst, D.int .i64 (ckI c).snd])] [] (vL (List.map ivD g)) []) ∧ (FnOK Tryz.prog 77 [vI c.s] [] (vB (tickB c.s)) []) ∧ (D.bool (tickB c.s) = D.bool true) ∧ (D.bool (decide (c.r > (0 : Int))) = D.bool true) ∧ (D.bool (decide (c.r ≤ (1073741824 : Int))) = D.bool true) ∧ (D.bool ((↑(List.map ivD g).length : Int) == (1 : Int)) = D.bool false) ∧ (rf (vB false)) ∧ True) (h := {G := [(81, gAns (.d (.int .i64 (cSz c))))], H := [(1, [(4, .val (.bool false)), (11, .val (.bool false)), (18, .val (.bool false)), (22, .val (.bool false))]), (3, [(3, .call [] (.d (ivD (ckI c))) []), (4, .call [] (.d (.sl (g.map ivD))) [])]), (4, [(2, .call [] (.d (.bool (tickB c.s))) []), (3, .val (.bool true)), (8, .val (.bool true)), (13, .val (.bool true)), (18, .val (.bool false))])]}) (subs := []) (ws := []) (ρ := []) (by kernel_rfl) ?_
 unfold timB at ht
 simp only [Bool.and_eq_true, decide_eq_true_eq] at ht
 obtain ⟨t1, t2, t3⟩ := ht
 simp only [List.length_map]
 repeat' (with_reducible first|exact ⟨⟩|apply And.intro|(first|apply zA|apply zB|apply zC|apply zD|apply zE|apply zF|apply zG)<;>intro)
 all_goals first | exact k1 | exact k2 | exact k3 | exact k4 | rfl | omega | exact dyes (by omega) | exact dno (by omega) | (refine congrArg D.bool ?_; exact hq) | (exfalso; omega) | (refine congrArg (fun z => AV.d (.bool z)) ?_; simp_all; done) | (refine congrArg D.bool ?_; simp_all; done) | skip
theorem fits62d (s : Sq) (c : Ck) (a : Int) (k1 : FnOK Tryz.prog 81 [.d (ckD c)] [] (.d (.int .i64 (cSz c))) []) (y : Iv) (q : Bool) (hq : (y.1 == (ckI c).1 && (y.2 == (ckI c).2 && true)) = q) (h : ¬(c.f < a ∨ c.t > s.n ∨ c.f ≥ c.t ∨ cSz c > 48)) (g : List Iv) (hg : g = [y]) (k2 : FnOK Tryz.prog 103 [.d (.sl (s.cm.map ivD)), .d (ivD (ckI c))] [] (.d (.sl (g.map ivD))) []) (k3 : FnOK Tryz.prog 104 [.d (ckD c)] [] (.d (ivD (ckI c))) []) (k4 : FnOK Tryz.prog 77 [.d (.int .i64 c.s)] [] (.d (.bool (tickB c.s))) []) (ht : timB c = true) : FnOK Tryz.prog 74 ([.d (sqD s), .d (ckD c), .d (.int .i64 a)]) ([]) (.d (.bool q)) ([]) := by
 refine fnOK_wp (p := (D.bool (decide (c.f < a)) = D.bool false) ∧ (D.bool (decide (c.t > s.n)) = D.bool false) ∧ (D.bool (decide (c.f ≥ c.t)) = D.bool false) ∧ (FnOK Tryz.prog 81 [AV.d (ckD c)] [] (vI (cSz c)) []) ∧ (D.bool (decide (cSz c > (48 : Int))) = D.bool false) ∧ (FnOK Tryz.prog 104 [AV.d (ckD c)] [] (AV.d (.agg [D.int .i64 (ckI c).fst, D.int .i64 (ckI c).snd])) []) ∧ (FnOK Tryz.prog 103 [vL (List.map ivD s.cm), AV.d (.agg [D.int .i64 (ckI c).fst, D.int .i64 (ckI c).snd])] [] (vL (List.map ivD g)) []) ∧ (FnOK Tryz.prog 77 [vI c.s] [] (vB (tickB c.s)) []) ∧ (D.bool (tickB c.s) = D.bool true) ∧ (D.bool (decide (c.r > (0 : Int))) = D.bool true) ∧ (D.bool (decide (c.r ≤ (1073741824 : Int))) = D.bool true) ∧ (D.bool ((↑(List.map ivD g).length : Int) == (1 : Int)) = D.bool true) ∧ ((0 : Int) ≤ (0 : Int)) ∧ ((List.map ivD g)[0]? = some (ivD y)) ∧ (FnOK Tryz.prog 104 [AV.d (ckD c)] [] (AV.d (.agg [D.int .i64 (ckI c).fst, D.int .i64 (ckI c).snd])) []) ∧ (D.bool (y.fst == (ckI c).fst && (y.snd == (ckI c).snd && true)) = D.bool q) ∧ (rf (vB q)) ∧ True) (h := {G := [(81, gAns (.d (.int .i64 (cSz c))))], els := [(55, .el (ivD y))], H := [(1, [(4, .val (.bool false)), (11, .val (.bool false)), (18, .val (.bool false)), (22, .val (.bool false))]), (3, [(3, .call [] (.d (ivD (ckI c))) []), (4, .call [] (.d (.sl (g.map ivD))) [])]), (4, [(2, .call [] (.d (.bool (tickB c.s))) []), (3, .val (.bool true)), (8, .val (.bool true)), (13, .val (.bool true)), (18, .val (.bool true)), (23, .call [] (.d (ivD (ckI c))) []), (24, .val (.bool q))])]}) (subs := []) (ws := []) (ρ := []) (by kernel_rfl) ?_
 unfold timB at ht
 simp only [Bool.and_eq_true, decide_eq_true_eq] at ht
 obtain ⟨t1, t2, t3⟩ := ht
 subst hg
 repeat' (with_reducible first|exact ⟨⟩|apply And.intro|(first|apply zA|apply zB|apply zC|apply zD|apply zE|apply zF|apply zG)<;>intro)
 all_goals first | exact k1 | exact k2 | exact k3 | exact k4 | rfl | omega | exact dyes (by omega) | exact dno (by omega) | (refine congrArg D.bool ?_; exact hq) | (exfalso; omega) | (refine congrArg (fun z => AV.d (.bool z)) ?_; simp_all; done) | (refine congrArg D.bool ?_; simp_all; done) | skip
theorem fits62 (s : Sq) (hl : s.cm.length < 300000) (c : Ck) (a : Int) : FnOK Tryz.prog 74 [.d (sqD s), .d (ckD c), .d (.int .i64 a)] [] (.d (.bool (fitsB s c a))) [] := by
 have k1 := size37 c trivial trivial
 have k2 := gaps15 s.cm hl (ckI c)
 have k3 := ival74 c trivial trivial
 have k4 := tick34 c.s trivial trivial
 unfold fitsB offB
 by_cases h : c.f < a ∨ c.t > s.n ∨ c.f ≥ c.t ∨ cSz c > 48
 ·rw [decide_eq_true h]
  exact fits62a s c a k1 h trivial trivial trivial trivial
 ·rw [decide_eq_false h]
  generalize rGaps s.cm (ckI c) = g at *
  cases ht : timB c
  ·exact fits62b s c a k1 h g k2 k3 k4 ht trivial
  ·match g, k2 with
   | [], k2 => exact fits62c s c a k1 h [] k2 k3 k4 ht (by simp) trivial
   | [y], k2 =>
    by_cases e : y = ckI c
    ·subst e
     rw [show decide ([ckI c] = [ckI c]) = true by simp]
     exact fits62d s c a k1 (ckI c) true (by simp) h [ckI c] rfl k2 k3 k4 ht
    ·rw [show decide ([y] = [ckI c]) = false by simpa using e]
     exact fits62d s c a k1 y false (ivD_ne e) h [y] rfl k2 k3 k4 ht
   | y :: z :: g, k2 =>
    rw [show decide (y :: z :: g = [ckI c]) = false by simp]
    exact fits62c s c a k1 h (y :: z :: g) k2 k3 k4 ht (by simp only [List.length_cons]; omega) trivial
end Go.Proofs.YtalpfhpeaaocmaaGreat.C11
end
