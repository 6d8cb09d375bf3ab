/-
Code by hints, and a function's contract by one walk through its text. No condition.
-/
import Derived.Test.YtfllhedkgeljaaaSxp
set_option linter.unusedSimpArgs false
set_option linter.unusedVariables false
namespace Go.Proofs.Ytfllhedkgeljaaa
namespace Sx
open Go.RowKit

/-- A loop's law to be used: how the state is told before it, how the loop ends, what is then. -/
structure Sub where
  ws : List WH
  ρ : List (Nat × Nat)
  pre : St
  e : Exit
  post : St

def hintsOf (H : List (Nat × List (Nat × OH))) (id : Nat) : List (Nat × OH) := match H with | [] => [] | (i, h) :: r => if i = id then h else hintsOf r id

def evC (P : Program) (k : Nat) (H : List (Nat × List (Nat × OH))) : Code → List Sub → AS → Option (List Sub × Exit × AS × List Prop)
  | .skip, m, S => some (m, .normal, S, [])
  | .label _, m, S => some (m, .normal, S, [])
  | .exit id, m, S => some (m, .exit id, S, [])
  | .goto l, m, S => some (m, .goto l, S, [])
  | .ret, m, S => some (m, .ret, S, [])
  | .region id ops draw, m, S => match regEv P (FnOK P) ops draw (hintsOf H id) S with
    | some (S', obs) => some (m, .normal, S', obs)
    | none => none
  | .seq x y, m, S => match evC P k H x m S with
    | some (m1, e1, S1, o1) => match e1 with
      | .normal => match evC P k H y m1 S1 with
        | some (m2, e2, S2, o2) => some (m2, e2, S2, o1 ++ o2)
        | none => none
      | e1 => some (m1, e1, S1, o1)
    | none => none
  | .cond c x y, m, S => match S.ev c with
    | .d (.bool b) => match b with
      | true => evC P k H x m S
      | false => evC P k H y m S
    | _ => none
  | .block id c, m, S => match evC P k H c m S with
    | some (m1, e, S1, o) => some (m1, blockExit id e, S1, o)
    | none => none
  | .loop c, m, S => match m with
    | s :: r => match entail k s.ws s.ρ S s.pre with
      | some obs => some (r, s.e, s.post.as S.nt, Loops P k c (s.pre.as S.nt) s.e (s.post.as S.nt) :: obs)
      | none => none
    | [] => none
  | .scope c, m, S => match evC P k H c m S with
    | some (m1, e, S1, o) => match e with
      | .goto _ => none
      | e => some (m1, e, S1, o)
    | none => none
  | _, _, _ => none

section
variable {P : Program} {k : Nat}

theorem evC_ok {H : List (Nat × List (Nat × OH))} : ∀ {c : Code} {m m' : List Sub} {S S' : AS} {e : Exit} {obs : List Prop}, evC P k H c m S = some (m', e, S', obs) → (∀ p ∈ obs, p) → Runs P k c S e S' := by
  intro c
  induction c with
  | skip => intro m m' S S' e obs h _; cases h; exact Runs.skip _
  | label l => intro m m' S S' e obs h _; cases h; exact Runs.label _ _
  | exit id => intro m m' S S' e obs h _; cases h; exact Runs.exit _ _
  | goto l => intro m m' S S' e obs h _; cases h; exact Runs.goto _ _
  | ret => intro m m' S S' e obs h _; cases h; exact Runs.ret _
  | region id ops draw =>
    intro m m' S S' e obs h hob
    simp only [evC] at h
    split at h
    · next h1 => cases h; exact Runs.region h1 hob
    · cases h
  | seq x y ihx ihy =>
    intro m m' S S' e obs h hob
    simp only [evC] at h
    split at h
    · next m1 e1 S1 o1 h1 =>
      split at h
      · split at h
        · next h2 =>
          cases h
          exact (ihx h1 fun p hp => hob p (List.mem_append_left _ hp)).seq (ihy h2 fun p hp => hob p (List.mem_append_right _ hp))
        · cases h
      · next hne =>
        cases h
        exact (ihx h1 hob).seq_out (fun he => hne he)
    · cases h
  | cond c x y ihx ihy =>
    intro m m' S S' e obs h hob
    simp only [evC] at h
    split at h
    · next b hb =>
      split at h
      · exact Runs.cond (b := true) hb (ihx h hob)
      · exact Runs.cond (b := false) hb (ihy h hob)
    · cases h
  | block id c ih =>
    intro m m' S S' e obs h hob
    simp only [evC] at h
    split at h
    · next h1 => cases h; exact (ih h1 hob).block
    · cases h
  | loop c ih =>
    intro m m' S S' e obs h hob
    simp only [evC] at h
    split at h
    · split at h
      · next h1 =>
        cases h
        exact ((hob _ (List.mem_cons_self ..) : Loops P k c _ _ _).runs).pre (entail_ok h1 fun p hp => hob p (List.mem_cons_of_mem _ hp))
      · cases h
    · cases h
  | scope c ih =>
    intro m m' S S' e obs h hob
    simp only [evC] at h
    split at h
    · next h1 =>
      split at h
      · cases h
      · next hne => cases h; exact (ih h1 hob).scope fun l he => hne l he
    · cases h
  | rangeFunc f ts c d ihc ihd => intro m m' S S' e obs h _; simp only [evC] at h; cases h
  | refuse s => intro m m' S S' e obs h _; simp only [evC] at h; cases h

/-! ### Functions -/

def resV (P : Program) (S : AS) : ResultVar → Option (AV × List Prop)
  | .tmp t => some (S.E t, [])
  | .cell a T => match actLoad P T (S.E a) .n S.O with
    | some e => some (e.val, e.obs)
    | none => none
def resVs (P : Program) (S : AS) : List ResultVar → Option (List AV × List Prop)
  | [] => some ([], [])
  | r :: l => match resV P S r with
    | some (x, o1) => match resVs P S l with
      | some (xs, o2) => some (x :: xs, o1 ++ o2)
      | none => none
    | none => none
def joined : List AV → AV
  | [x] => x
  | l => .tup l
def entryE (args : List AV) (t : Nat) : AV := match args[t]? with | some x => x | none => .dead
def numbered : Nat → List Ob → List (Nat × Ob)
  | _, [] => []
  | i, x :: r => (i, x) :: numbered (i + 1) r
def okExit : Exit → Bool
  | .normal => true
  | .ret => true
  | _ => false
def allP : List Prop → Prop
  | [] => True
  | [p] => p
  | p :: r => p ∧ allP r
theorem allP_mem {l : List Prop} (h : allP l) : ∀ p ∈ l, p := by
  induction l with
  | nil => simp
  | cons p r ih =>
    cases r with
    | nil => intro q hq; rw [List.mem_singleton] at hq; rw [hq]; exact h
    | cons p2 r =>
      obtain ⟨h1, h2⟩ := h
      intro q hq
      rcases List.mem_cons.1 hq with h3 | h3
      · exact h3 ▸ h1
      · exact ih h2 q h3

def evF (P : Program) (f : FuncId) (H : List (Nat × List (Nat × OH))) (subs : List Sub) (ws : List WH) (ρ : List (Nat × Nat)) (args : List AV) (ins : List Ob) (rv : AV) (outs : List Ob) : List Prop :=
  match P.funcs[f]? with
  | none => [False]
  | some fn => match fn.body with
    | none => [False]
    | some c =>
      if (fn.name == "runtime.NumGoroutine") = false ∧ fn.results.toList.length ≤ 5 then
        match evC P ins.length H c subs { E := entryE args, O := Oof ins, nt := args.length + (fn.ntmps - args.length) } with
        | none => [False]
        | some (_, e, S, obs) =>
          if okExit e = true then
            match resVs P S fn.results.toList with
            | none => [False]
            | some (l, o2) =>
              match entail ins.length ws ρ { E := upd (fun _ => .dead) 0 (joined l), O := S.O, nt := 1 } ⟨[(0, rv)], numbered 0 outs⟩ with
              | none => [False]
              | some o3 => obs ++ (o2 ++ o3)
          else [False]
      else [False]

def resM (tmps : Array Value) (r : ResultVar) : Sem Value :=
  match r with
  | .tmp t => pure (tmps.getD t undef)
  | .cell a t => do
    let p ← asAddr (tmps.getD a undef)
    loadVar t p
def joinedV : List Value → Value
  | [x] => x
  | l => .tuple l.toArray

theorem results_of {fn : Func} {tmps : Array Value} {w : World} {vs : List Value} (hl : vs.length = fn.results.toList.length) (h4 : fn.results.toList.length ≤ 5)
    (h : ∀ (j : Nat) (r : ResultVar) (v : Value), fn.results.toList[j]? = some r → vs[j]? = some v → (resM tmps r).run P w = .ok v w) :
    (results fn tmps).run P w = .ok (joinedV vs) w := by
  have hr : results fn tmps = (do let vs ← fn.results.mapM (resM tmps); pure (if h : vs.size = 1 then vs[0] else Value.tuple vs)) := rfl
  rw [hr]
  obtain ⟨l, hres⟩ : ∃ l : List ResultVar, fn.results = l.toArray := ⟨fn.results.toList, by simp⟩
  rw [hres] at hl h4 h ⊢
  match l, vs, hl, h4, h with
  | [], [], _, _, _ => simp [joinedV]
  | [r0], [v0], _, _, h => simp [joinedV, Sem.run_bind, h 0 r0 v0 rfl rfl]
  | [r0, r1], [v0, v1], _, _, h => simp [joinedV, Sem.run_bind, h 0 r0 v0 rfl rfl, h 1 r1 v1 rfl rfl]
  | [r0, r1, r2], [v0, v1, v2], _, _, h => simp [joinedV, Sem.run_bind, h 0 r0 v0 rfl rfl, h 1 r1 v1 rfl rfl, h 2 r2 v2 rfl rfl]
  | [r0, r1, r2, r3], [v0, v1, v2, v3], _, _, h => simp [joinedV, Sem.run_bind, h 0 r0 v0 rfl rfl, h 1 r1 v1 rfl rfl, h 2 r2 v2 rfl rfl, h 3 r3 v3 rfl rfl]
  | [r0, r1, r2, r3, r4], [v0, v1, v2, v3, v4], _, _, h => simp [joinedV, Sem.run_bind, h 0 r0 v0 rfl rfl, h 1 r1 v1 rfl rfl, h 2 r2 v2 rfl rfl, h 3 r3 v3 rfl rfl, h 4 r4 v4 rfl rfl]
  | _ :: _ :: _ :: _ :: _ :: _ :: _, _, _, h4, _ => simp at h4

theorem resVs_ok {S : AS} {β : Nat → HE} {X : Nat → Prop} {a : Act} {w : World} (hR : Rel S β X a w) : ∀ {l : List ResultVar} {xs : List AV} {obs : List Prop}, resVs P S l = some (xs, obs) → (∀ p ∈ obs, p) →
    ∃ vs : List Value, vs.length = l.length ∧ xs.length = l.length ∧ (∀ (j : Nat) (r : ResultVar) (v : Value), l[j]? = some r → vs[j]? = some v → (resM a.tmps r).run P w = .ok v w) ∧
      (∀ (j : Nat) (x : AV) (v : Value), xs[j]? = some x → vs[j]? = some v → AR S.O β X w x v) := by
  intro l
  induction l with
  | nil => intro xs obs h _; simp only [resVs] at h; cases h; exact ⟨[], rfl, rfl, fun j r v h => by simp at h, fun j r v h => by simp at h⟩
  | cons r l ih =>
    intro xs obs h hob
    simp only [resVs] at h
    split at h
    · next x o1 h1 =>
      split at h
      · next xs' o2 h2 =>
        cases h
        obtain ⟨vs, k1, k2, k3, k4⟩ := ih h2 fun p hp => hob p (List.mem_append_right _ hp)
        obtain ⟨v, hv1, hv2⟩ : ∃ v, (resM a.tmps r).run P w = .ok v w ∧ AR S.O β X w x v := by
          cases r with
          | tmp t =>
            simp only [resV] at h1
            cases h1
            exact ⟨_, rfl, hR.slots t⟩
          | cell b T =>
            simp only [resV] at h1
            split at h1
            · next e he =>
              cases h1
              obtain ⟨v, q1, q2, -⟩ := actLoad_ok hR.objs (fun n => .inl rfl) (hR.slots b) he fun p hp => hob p (List.mem_append_left _ hp)
              refine ⟨v, ?_, q2⟩
              have hsa : ∀ u w', (Instr.loadAt T u).run P w = .ok v w' → (do let p ← asAddr u; loadVar T p : Sem Value).run P w = .ok v w' := by
                intro u w' hh
                unfold Instr.loadAt Instr.sureAddr at hh
                unfold asAddr
                split at hh <;> first | exact hh | (exfalso; simp [Sem.run_bind] at hh; done)
              exact hsa _ _ q1
            · cases h1
        refine ⟨v :: vs, by simp [k1], by simp [k2], fun j r' v' h5 h6 => ?_, fun j x' v' h5 h6 => ?_⟩
        · cases j with
          | zero => cases h5; cases h6; exact hv1
          | succ j => exact k3 j r' v' h5 h6
        · cases j with
          | zero => cases h5; cases h6; exact hv2
          | succ j => exact k4 j x' v' h5 h6
      · cases h
    · cases h

theorem joined_ok {M : Nat → Prop} {β : Nat → HE} {C : Nat → Prop} {w : World} {xs : List AV} {vs : List Value} (hl : xs.length = vs.length) (h : ∀ (j : Nat) (x : AV) (v : Value), xs[j]? = some x → vs[j]? = some v → RAV w M β C x v) :
    RAV w M β C (joined xs) (joinedV vs) := by
  have htup : RAV w M β C (.tup xs) (.tuple vs.toArray) := .tup _ _ (by simpa using hl.symm) fun j x hj => by
    have hlt := (List.getElem?_eq_some_iff.1 hj).1
    have := h j x (vs[j]'(by omega)) hj (by simp)
    simpa [hl ▸ hlt] using this
  match xs, vs, hl with
  | [], [], _ => exact htup
  | [x], [v], _ => exact h 0 x v rfl rfl
  | _ :: _ :: _, _ :: _ :: _, _ => exact htup

theorem numbered_look : ∀ (l : List Ob) (i n : Nat), lookO (numbered i l) n = if i ≤ n then Oof l (n - i) else .none := by
  intro l
  induction l with
  | nil => intro i n; simp [numbered, lookO, Oof]
  | cons x r ih =>
    intro i n
    simp only [numbered, lookO]
    split
    · next h => subst h; simp [Oof]
    · next h =>
      rw [ih]
      by_cases h1 : i ≤ n
      · rw [if_pos (by omega), if_pos h1]
        have : n - i = (n - (i + 1)) + 1 := by omega
        rw [this]
        simp [Oof]
      · rw [if_neg (by omega), if_neg h1]

/-- ONE WALK: the function's text, seen by the hints, asks for these things: where they hold, the contract holds. -/
theorem fnOK_of {f : FuncId} {H : List (Nat × List (Nat × OH))} {subs : List Sub} {ws : List WH} {ρ : List (Nat × Nat)} {args : List AV} {ins : List Ob} {rv : AV} {outs : List Ob} {p : Prop}
    (he : allP (evF P f H subs ws ρ args ins rv outs) = p) (hp : p) : FnOK P f args ins rv outs := by
  have hall := allP_mem (he.symm ▸ hp : allP (evF P f H subs ws ρ args ins rv outs))
  clear he hp
  unfold evF at hall
  split at hall
  · exact (hall False (by simp)).elim
  next fn hf =>
  split at hall
  · exact (hall False (by simp)).elim
  next c hc =>
  split at hall
  case isFalse => exact (hall False (by simp)).elim
  next hname =>
  obtain ⟨hname, h5⟩ := hname
  split at hall
  · exact (hall False (by simp)).elim
  next m e S obs hev =>
  split at hall
  case isFalse => exact (hall False (by simp)).elim
  next hex =>
  split at hall
  · exact (hall False (by simp)).elim
  next l o2 hres =>
  split at hall
  · exact (hall False (by simp)).elim
  next o3 hent =>
  refine ⟨⟨fn, hf, by simp [hc], hname⟩, fun w X β vs hO hvs => calls_of_wp hf hc ?_⟩
  obtain ⟨hlen, hvs⟩ := hvs
  have hR0 : Rel { E := entryE args, O := Oof ins, nt := args.length + (fn.ntmps - args.length) } β X { tmps := vs ++ Array.replicate (fn.ntmps - vs.size) undef, defers := [] } w := by
    refine ⟨by simp [hlen], rfl, fun t => ?_, hO⟩
    show RAV w _ _ _ (entryE args t) _
    unfold entryE
    split
    · next x hx =>
      have hlt := (List.getElem?_eq_some_iff.1 hx).1
      have h1 := hvs t x hx
      have h2 : (vs ++ Array.replicate (fn.ntmps - vs.size) undef).getD t undef = vs.getD t undef := by
        simp only [Array.getD_eq_getD_getElem?]
        rw [Array.getElem?_append_left (by omega)]
      show RAV w _ _ _ x ((vs ++ Array.replicate (fn.ntmps - vs.size) undef).getD t undef)
      rw [h2]
      exact h1
    · exact .dead _
  refine wp_mono (evC_ok hev (fun p hp => hall p (List.mem_append_left _ hp)) β X _ w hR0) fun e' a' w' ⟨he', β1, hR1, hs1⟩ => ?_
  obtain ⟨us, k1, k2, k3, k4⟩ := resVs_ok hR1 hres fun p hp => hall p (List.mem_append_right _ (List.mem_append_left _ hp))
  have hrun := results_of k1 h5 k3
  have hR2 : Rel { E := upd (fun _ => .dead) 0 (joined l), O := S.O, nt := 1 } β1 X { tmps := #[joinedV us], defers := [] } w' := by
    refine ⟨rfl, rfl, fun t => ?_, hR1.objs⟩
    by_cases ht : t = 0
    · subst ht
      show RAV w' _ _ _ (upd (fun _ => .dead) 0 (joined l) 0) _
      rw [upd_same]
      exact joined_ok (k2.trans k1.symm) k4
    · show RAV w' _ _ _ (upd (fun _ => .dead) 0 (joined l) t) _
      rw [upd_other _ _ ht]
      exact .dead _
  obtain ⟨β2, hR3, hs2⟩ := entail_ok hent (fun p hp => hall p (List.mem_append_right _ (List.mem_append_right _ hp))) β1 X _ w' hR2
  have hOut : (fun n => lookO (numbered 0 outs) n) = Oof outs := by
    funext n
    rw [numbered_look]
    simp
  have hAR : AR (Oof outs) β2 X w' rv (joinedV us) := by
    have := hR3.slots 0
    have h0 : (St.as ⟨[(0, rv)], numbered 0 outs⟩ 1).O = Oof outs := hOut
    rw [h0] at this
    exact this
  have hObj : Objs (Oof outs) β2 X w' := by
    have := hR3.objs
    have h0 : (St.as ⟨[(0, rv)], numbered 0 outs⟩ 1).O = Oof outs := hOut
    rw [h0] at this
    exact this
  have hstep := hs1.trans hs2
  have hst : Step (Oof ins) (Oof outs) β β2 w w' := by
    refine ⟨hstep.evo, fun o ho => ?_, hstep.new⟩
    have hlt : o < ins.length := by
      rcases Nat.lt_or_ge o ins.length with h | h
      · exact h
      · exfalso
        apply ho
        simp [Oof, List.getElem?_eq_none h]
    have := hstep.keep o hlt ho
    have h0 : (St.as ⟨[(0, rv)], numbered 0 outs⟩ 1).O = Oof outs := hOut
    rw [h0] at this
    exact this
  subst he'
  have hfin : a'.defers = [] ∧ ∃ v, (results fn a'.tmps).run P w' = .ok v w' ∧ ∃ v' β', Ending.returned v = .returned v' ∧ AR (Oof outs) β' X w' rv v' ∧ Objs (Oof outs) β' X w' ∧ Step (Oof ins) (Oof outs) β β' w w' :=
    ⟨hR1.defers, _, hrun, _, β2, rfl, hAR, hObj, hst⟩
  cases e' with
  | normal => exact hfin
  | ret => exact hfin
  | _ => simp [okExit] at hex

/-! ### Loops -/

def loopsIn : Code → List Code
  | .seq x y => loopsIn x ++ loopsIn y
  | .cond _ x y => loopsIn x ++ loopsIn y
  | .block _ c => loopsIn c
  | .scope c => loopsIn c
  | .loop c => c :: loopsIn c
  | .rangeFunc _ _ c d => loopsIn c ++ loopsIn d
  | _ => []
/-- The i-th loop of a function's text, from above. -/
def loopN (P : Program) (f : FuncId) (i : Nat) : Code :=
  match P.funcs[f]? with
  | some fn => match fn.body with
    | some c => match (loopsIn c)[i]? with | some x => x | none => .skip
    | none => .skip
  | none => .skip
def exitEq : Exit → Exit → Bool
  | .normal, .normal => true
  | .ret, .ret => true
  | .exit a, .exit b => a == b
  | .goto a, .goto b => a == b
  | _, _ => false
theorem exitEq_eq {a b : Exit} (h : exitEq a b = true) : a = b := by
  cases a <;> cases b <;> simp_all [exitEq]

def evR (P : Program) (k : Nat) (c : Code) (nt : Nat) (H : List (Nat × List (Nat × OH))) (subs : List Sub) (ws : List WH) (ρ : List (Nat × Nat)) (pre : St) (e : Exit) (post : St) : List Prop :=
  match evC P k H c subs (pre.as nt) with
  | none => [False]
  | some (_, e', S, obs) =>
    if exitEq e' e = true ∧ S.nt = nt then
      match entail k ws ρ S post with
      | none => [False]
      | some o => obs ++ o
    else [False]
/-- ONE ROUND of a loop. -/
theorem round_of {c : Code} {nt : Nat} {H : List (Nat × List (Nat × OH))} {subs : List Sub} {ws : List WH} {ρ : List (Nat × Nat)} {pre : St} {e : Exit} {post : St} {p : Prop}
    (he : allP (evR P k c nt H subs ws ρ pre e post) = p) (hp : p) : Runs P k c (pre.as nt) e (post.as nt) := by
  have hall := allP_mem (he.symm ▸ hp : allP (evR P k c nt H subs ws ρ pre e post))
  clear he hp
  unfold evR at hall
  split at hall
  · exact (hall False (by simp)).elim
  next m e' S obs hev =>
  split at hall
  case isFalse => exact (hall False (by simp)).elim
  next hex =>
  split at hall
  · exact (hall False (by simp)).elim
  next o hent =>
  have h1 := exitEq_eq hex.1
  subst h1
  have h2 := (evC_ok hev fun p hp => hall p (List.mem_append_left _ hp)).post (entail_ok hent fun p hp => hall p (List.mem_append_right _ hp))
  rw [hex.2] at h2
  exact h2
end
end Sx
end Go.Proofs.Ytfllhedkgeljaaa
