/-
Code: what it does to abstract states; loops; the executor. No condition.
-/
import Derived.Test.YtfllhedkgeljaaaSxn
import Derived.Scope
set_option linter.unusedSimpArgs false
set_option linter.unusedVariables false
namespace Go.Proofs.Ytfllhedkgeljaaa
namespace Sx
open Go.RowKit

/-- What has become of memory; the first `k` objects are those that came in. -/
structure StepK (k : Nat) (O O' : Nat → Ob) (β β' : Nat → HE) (w w' : World) : Prop where
  evo : Evo (Tset β) w w'
  keep : ∀ o, o < k → O o ≠ .none → O' o ≠ .none ∧ (β' o = β o ∨ β' o = .gone)
  new : ∀ b, Tset β' b → Tset β b ∨ w.heap.size ≤ b

theorem Step.toK {O O' : Nat → Ob} {β β' : Nat → HE} {w w' : World} (h : Step O O' β β' w w') (k : Nat) : StepK k O O' β β' w w' := ⟨h.evo, fun o _ ho => h.keep o ho, h.new⟩
theorem StepK.refl (k : Nat) (O : Nat → Ob) (β : Nat → HE) (w : World) : StepK k O O β β w w := (Step.refl O β w).toK k
theorem StepK.trans {k : Nat} {O O' O'' : Nat → Ob} {β β' β'' : Nat → HE} {w w' w'' : World} (h : StepK k O O' β β' w w') (g : StepK k O' O'' β' β'' w' w'') : StepK k O O'' β β'' w w'' where
  evo := h.evo.trans g.evo h.new
  keep := fun o ho hn => by
    obtain ⟨h1, h2⟩ := h.keep o ho hn
    obtain ⟨k1, k2⟩ := g.keep o ho h1
    refine ⟨k1, ?_⟩
    rcases k2 with k2 | k2
    · rcases h2 with h2 | h2
      · exact .inl (k2.trans h2)
      · exact .inr (k2.trans h2)
    · exact .inr k2
  new := fun b hb => by
    rcases g.new b hb with h1 | h1
    · exact h.new b h1
    · exact .inr (Nat.le_trans h.evo.size h1)

/-- From every memory that `S` describes the code comes out by `e`, and `S'` describes what is then. -/
def Runs (P : Program) (k : Nat) (c : Code) (S : AS) (e : Exit) (S' : AS) : Prop :=
  ∀ β X a w, Rel S β X a w → c.wp P (fun e' a' w' => e' = e ∧ ∃ β', Rel S' β' X a' w' ∧ StepK k S.O S'.O β β' w w') a w

/-- `S` describes no more than `S'`. -/
def Ent (k : Nat) (S S' : AS) : Prop := ∀ β X a w, Rel S β X a w → ∃ β', Rel S' β' X a w ∧ StepK k S.O S'.O β β' w w

section
variable {P : Program} {k : Nat}

theorem Ent.refl (S : AS) : Ent k S S := fun β _ _ w h => ⟨β, h, StepK.refl _ _ _ _⟩
theorem Ent.trans {S S' S'' : AS} (h : Ent k S S') (g : Ent k S' S'') : Ent k S S'' := fun β X a w hR => by
  obtain ⟨β1, h1, h2⟩ := h β X a w hR
  obtain ⟨β2, h3, h4⟩ := g β1 X a w h1
  exact ⟨β2, h3, h2.trans h4⟩

theorem Runs.post {c : Code} {S S1 S' : AS} {e : Exit} (h : Runs P k c S e S1) (g : Ent k S1 S') : Runs P k c S e S' := fun β X a w hR =>
  wp_mono (h β X a w hR) fun e' a' w' ⟨he, β1, hR1, hs⟩ => by
    obtain ⟨β2, h3, h4⟩ := g β1 X a' w' hR1
    exact ⟨he, β2, h3, hs.trans h4⟩
theorem Runs.pre {c : Code} {S S1 S' : AS} {e : Exit} (g : Ent k S S1) (h : Runs P k c S1 e S') : Runs P k c S e S' := fun β X a w hR => by
  obtain ⟨β1, h1, h2⟩ := g β X a w hR
  exact wp_mono (h β1 X a w h1) fun e' a' w' ⟨he, β2, hR2, hs⟩ => ⟨he, β2, hR2, h2.trans hs⟩

theorem Runs.skip (S : AS) : Runs P k .skip S .normal S := fun β _ _ w hR => wp_skip ⟨rfl, β, hR, StepK.refl _ _ _ _⟩
theorem Runs.label (S : AS) (l : Nat) : Runs P k (.label l) S .normal S := fun β _ _ w hR => wp_label ⟨rfl, β, hR, StepK.refl _ _ _ _⟩
theorem Runs.exit (S : AS) (id : Nat) : Runs P k (.exit id) S (.exit id) S := fun β _ _ w hR => wp_exit ⟨rfl, β, hR, StepK.refl _ _ _ _⟩
theorem Runs.goto (S : AS) (l : Nat) : Runs P k (.goto l) S (.goto l) S := fun β _ _ w hR => wp_goto ⟨rfl, β, hR, StepK.refl _ _ _ _⟩
theorem Runs.ret (S : AS) : Runs P k .ret S .ret S := fun β _ _ w hR => wp_ret ⟨rfl, β, hR, StepK.refl _ _ _ _⟩
theorem Runs.region {id : Nat} {ops : Array Oper} {draw : Bool} {hs : List (Nat × OH)} {S S' : AS} {obs : List Prop} (h : regEv P (FnOK P) ops draw hs S = some (S', obs)) (hob : ∀ p ∈ obs, p) : Runs P k (.region id ops draw) S .normal S' :=
  fun β _ _ _ hR => region_ok h hob hR fun _ _ β' hR' hs => ⟨rfl, β', hR', hs.toK k⟩
theorem Runs.seq {x y : Code} {S S1 S2 : AS} {e : Exit} (h : Runs P k x S .normal S1) (g : Runs P k y S1 e S2) : Runs P k (.seq x y) S e S2 := fun β X a w hR =>
  wp_seq (wp_mono (h β X a w hR) fun e' a' w' ⟨he, β1, hR1, hs⟩ => by
    subst he
    exact wp_mono (g β1 X a' w' hR1) fun e2 a2 w2 ⟨he2, β2, hR2, hs2⟩ => ⟨he2, β2, hR2, hs.trans hs2⟩)
theorem then_abrupt {e : Exit} {next : Act → World → Prop} {Q : Exit → Act → World → Prop} {a : Act} {w : World} (he : e ≠ .normal) (h : Q e a w) : Exit.then next Q e a w := by
  cases e <;> first | exact h | exact absurd rfl he
theorem Runs.seq_out {x y : Code} {S S1 : AS} {e : Exit} (he : e ≠ .normal) (h : Runs P k x S e S1) : Runs P k (.seq x y) S e S1 := fun β X a w hR =>
  wp_seq (wp_mono (h β X a w hR) fun e' a' w' hq => then_abrupt (by rw [hq.1]; exact he) hq)
theorem Runs.cond {c : Operand} {x y : Code} {S S' : AS} {e : Exit} {b : Bool} (hc : S.ev c = .d (.bool b)) (h : Runs P k (if b then x else y) S e S') : Runs P k (.cond c x y) S e S' := fun β X a w hR => by
  have h1 := ev_ok hR c
  rw [hc] at h1
  exact wp_cond h1.d_inv.bool_inv (h β X a w hR)
def blockExit (id : Nat) : Exit → Exit
  | .exit id' => if id' = id then .normal else .exit id'
  | e => e
theorem Runs.block {id : Nat} {c : Code} {S S' : AS} {e : Exit} (h : Runs P k c S e S') : Runs P k (.block id c) S (blockExit id e) S' := fun β X a w hR =>
  wp_block (wp_mono (h β X a w hR) fun e' a' w' ⟨he, hq⟩ => by
    subst he
    cases e' with
    | exit id' =>
      simp only [Exit.inBlock, blockExit]
      split
      · exact ⟨rfl, hq⟩
      · exact ⟨rfl, hq⟩
    | _ => exact ⟨rfl, hq⟩)

/-- Rounds of a loop, one behind the other. -/
inductive Loops (P : Program) (k : Nat) (c : Code) : AS → Exit → AS → Prop
  | out {S S' : AS} {e : Exit} (h : Runs P k c S e S') (he : e ≠ .normal) : Loops P k c S e S'
  | next {S S1 S' : AS} {e : Exit} (h : Runs P k c S .normal S1) (r : Loops P k c S1 e S') : Loops P k c S e S'
theorem Loops.pre {c : Code} {S S1 S' : AS} {e : Exit} (g : Ent k S S1) (h : Loops P k c S1 e S') : Loops P k c S e S' := by
  cases h with
  | out h he => exact .out (h.pre g) he
  | next h r => exact .next (h.pre g) r
theorem Loops.post {c : Code} {S S1 S' : AS} {e : Exit} (h : Loops P k c S e S1) (g : Ent k S1 S') : Loops P k c S e S' := by
  induction h with
  | out h he => exact .out (h.post g) he
  | next h r ih => exact .next h (ih g)
theorem Loops.runs {c : Code} {S S' : AS} {e : Exit} (h : Loops P k c S e S') : Runs P k (.loop c) S e S' := by
  have key : ∃ n, ∀ β X a w Q, Rel S β X a w → (∀ a' w' β', Rel S' β' X a' w' → StepK k S.O S'.O β β' w w' → Q e a' w') → Code.rounds P c Q n a w := by
    induction h with
    | @out S S' e h he =>
      refine ⟨1, fun β X a w Q hR hQ => ?_⟩
      rw [rounds_succ]
      exact wp_mono (h β X a w hR) fun e' a' w' ⟨he', β', hR', hs⟩ => then_abrupt (by rw [he']; exact he) (by rw [he']; exact hQ a' w' β' hR' hs)
    | @next S S1 S' e h r ih =>
      obtain ⟨n, hn⟩ := ih
      refine ⟨n + 1, fun β X a w Q hR hQ => ?_⟩
      rw [rounds_succ]
      refine wp_mono (h β X a w hR) fun e' a' w' ⟨he', β', hR', hs⟩ => ?_
      subst he'
      exact hn β' X a' w' Q hR' fun a2 w2 β2 hR2 hs2 => hQ a2 w2 β2 hR2 (hs.trans hs2)
  obtain ⟨n, hn⟩ := key
  exact fun β X a w hR => wp_loop_rounds n (hn β X a w _ hR fun a' w' β' hR' hs => ⟨rfl, β', hR', hs⟩)

theorem Runs.scope {c : Code} {S S' : AS} {e : Exit} (h : Runs P k c S e S') (he : ∀ l, e ≠ .goto l) : Runs P k (.scope c) S e S' := fun β X a w hR =>
  wp_scope_straight (wp_mono (h β X a w hR) fun e' a' w' ⟨he', hq⟩ => by
    subst he'
    cases e' with
    | goto l => exact absurd rfl (he l)
    | _ => exact ⟨rfl, hq⟩)

/-- Passes from a label, one behind the other. -/
inductive Passes (P : Program) (k : Nat) (l : Nat) (c : Code) : AS → Exit → AS → Prop
  | out {S S' : AS} {e : Exit} (h : Runs P k c S e S') (he : ∀ l, e ≠ .goto l) : Passes P k l c S e S'
  | next {S S1 S' : AS} {e : Exit} (h : Runs P k c S (.goto l) S1) (r : Passes P k l c S1 e S') : Passes P k l c S e S'
theorem Passes.pre {l : Nat} {c : Code} {S S1 S' : AS} {e : Exit} (g : Ent k S S1) (h : Passes P k l c S1 e S') : Passes P k l c S e S' := by
  cases h with
  | out h he => exact .out (h.pre g) he
  | next h r => exact .next (h.pre g) r
theorem Passes.post {l : Nat} {c : Code} {S S1 S' : AS} {e : Exit} (h : Passes P k l c S e S1) (g : Ent k S1 S') : Passes P k l c S e S' := by
  induction h with
  | out h he => exact .out (h.post g) he
  | next h r ih => exact .next h (ih g)
theorem Passes.runs {l : Nat} {c rest : Code} {S S1 S' : AS} {e : Exit} (hf : findLabel c l = some rest) (h0 : Runs P k c S (.goto l) S1) (h : Passes P k l rest S1 e S') : Runs P k (.scope c) S e S' := by
  intro β X a w hR b kk cs
  have hg : gotoIn l (.inScope c :: kk) = some (.code rest :: .inScope c :: kk) := by simp [gotoIn, hf]
  have key : ∀ {S1 S' : AS} {e : Exit}, Passes P k l rest S1 e S' → ∀ β X a w, Rel S1 β X a w → ∃ e' a' w', (e' = e ∧ ∃ β', Rel S' β' X a' w' ∧ StepK k S1.O S'.O β β' w w') ∧
      Arrives P (lone (b.at a (.code rest :: .inScope c :: kk)) cs w) b kk cs e' a' w' := by
    intro S1 S' e h
    induction h with
    | @out S S' e h he =>
      intro β X a w hR
      obtain ⟨e', a', w', hq, harr⟩ := h β X a w hR b (.inScope c :: kk) cs
      refine ⟨e', a', w', hq, ?_⟩
      cases e' with
      | normal => exact Steps.trans harr (.one step_inScope)
      | exit id => exact fun k' hk => harr k' (by simp [exitTo, hk])
      | goto l' => exact absurd hq.1.symm (he l')
      | ret => exact harr
      | panic ch => exact harr
      | outgrown => exact harr
    | @next S S1 S' e h r ih =>
      intro β X a w hR
      obtain ⟨e', a', w', ⟨he', β', hR', hs⟩, harr⟩ := h β X a w hR b (.inScope c :: kk) cs
      subst he'
      obtain ⟨e2, a2, w2, ⟨he2, β2, hR2, hs2⟩, harr2⟩ := ih β' X a' w' hR'
      exact ⟨e2, a2, w2, ⟨he2, β2, hR2, hs.trans hs2⟩, .of_steps (harr _ hg) harr2⟩
  obtain ⟨e', a', w', ⟨he', β', hR', hs⟩, harr⟩ := h0 β X a w hR b (.inScope c :: kk) cs
  subst he'
  obtain ⟨e2, a2, w2, ⟨he2, β2, hR2, hs2⟩, harr2⟩ := key h β' X a' w' hR'
  exact ⟨e2, a2, w2, ⟨he2, β2, hR2, hs.trans hs2⟩, .of_steps (.head step_scope (harr _ hg)) harr2⟩
end
end Sx
end Go.Proofs.Ytfllhedkgeljaaa
