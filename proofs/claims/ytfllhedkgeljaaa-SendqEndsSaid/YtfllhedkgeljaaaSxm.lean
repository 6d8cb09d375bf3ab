/-
Regions: the operations one by one, in the order of the text; and in whatever order the model draws. No condition.
-/
import Derived.Test.YtfllhedkgeljaaaSxl
set_option linter.unusedSimpArgs false
set_option linter.unusedVariables false
namespace Go.Proofs.Ytfllhedkgeljaaa
namespace Sx
open Go.RowKit

/-- What an operation touches: slots read, slot written, objects seen, objects written. -/
structure FP where
  rd : List Nat
  dst : Option Nat
  seen : List Nat
  wr : List Nat

def tmpsOf : List Operand → List Nat
  | [] => []
  | .tmp t :: r => t :: tmpsOf r
  | _ :: r => tmpsOf r

def guardSlot (ops : Array Oper) (o : Oper) : List Nat :=
  match o.guard with
  | none => []
  | some (j, _) => match ops[j]? with
    | some oj => match oj.dst with | some d => [d] | none => []
    | none => []

def hintAt (hs : List (Nat × OH)) (i : Nat) : OH := match hs.lookup i with | some h => h | none => .n

def putE (E : Nat → AV) (dst : Option Nat) (v : AV) : Nat → AV := match dst with | some d => upd E d v | none => E

/-- Does it run? none: not known. -/
def runs (ops : Array Oper) (o : Oper) (E : Nat → AV) : Option Bool :=
  match o.guard with
  | none => some true
  | some (j, want) => match ops[j]? with
    | some oj => match oj.dst with
      | some d => match E d with | .d (.bool b) => (match b, want with | true, true => some true | false, false => some true | _, _ => some false) | .raw (.tuple _) => some false | _ => none
      | none => none
    | none => none

def dstOK (S : AS) (dst : Option Nat) : Bool := match dst with | some d => decide (d < S.nt) | none => true

def stepOp (P : Program) (F : FnRel) (ops : Array Oper) (hs : List (Nat × OH)) (i : Nat) (S : AS) : Option (AS × List Prop × FP) :=
  match ops[i]? with
  | none => none
  | some o =>
    if dstOK S o.dst then
      match runs ops o S.E with
      | some true =>
        match act P F (hintAt hs i) o S.ev S.O with
        | some e => some ({ S with E := putE S.E o.dst e.val, O := updL S.O e.wr }, e.obs, ⟨tmpsOf o.op.operands.toList ++ guardSlot ops o, o.dst, opNames (hintAt hs i) o S.ev, e.wr.map (·.1)⟩)
        | none => none
      | some false => some ({ S with E := putE S.E o.dst (.raw undef) }, [], ⟨guardSlot ops o, o.dst, [], []⟩)
      | none => none
    else none

section
variable {P : Program} {F : FnRel} {ops : Array Oper} {hs : List (Nat × OH)}

/-- Running a list of operations, what each touches being known. -/
def RunR (P : Program) (F : FnRel) (ops : Array Oper) (hs : List (Nat × OH)) (fp : Nat → FP) : List Nat → AS → AS → Prop
  | [], S, S' => S = S'
  | i :: r, S, S' => ∃ S1 obs, stepOp P F ops hs i S = some (S1, obs, fp i) ∧ (∀ p ∈ obs, p) ∧ RunR P F ops hs fp r S1 S'

theorem putE_act (E : Nat → AV) (a : Act) (dst : Option Nat) (v : Value) (t : Nat) (nt : Nat) (hs : a.tmps.size = nt) (hd : ∀ d, dst = some d → d < nt) :
    (a.put dst v).tmps.getD t undef = if dst = some t then v else a.tmps.getD t undef := by
  cases dst with
  | none => simp [Act.put]
  | some d =>
    have h := hd d rfl
    simp only [Act.put, Array.getD_eq_getD_getElem?, Array.getElem?_setIfInBounds]
    by_cases hdt : d = t
    · subst hdt
      rw [if_pos rfl, if_pos rfl]
      simp [show d < a.tmps.size by omega]
    · rw [if_neg hdt, if_neg (by simpa using hdt)]

theorem rel_after {β β' : Nat → HE} {X : Nat → Prop} {w w' : World} {S : AS} {a : Act} {e : Eff} {v : Value} {dst : Option Nat} (hR : Rel S β X a w) (hd : ∀ d, dst = some d → d < S.nt) (hdone : Done S.O β X w e v β' w') :
    Rel { S with E := putE S.E dst e.val, O := updL S.O e.wr } β' X (a.put dst v) w' := by
  refine ⟨?_, ?_, fun t => ?_, hdone.objs⟩
  · cases dst with
    | none => exact hR.size
    | some d => simpa [Act.put] using hR.size
  · cases dst with
    | none => exact hR.defers
    | some d => exact hR.defers
  · rw [putE_act S.E a dst v t S.nt hR.size hd]
    cases dst with
    | none => simp only [putE, reduceCtorEq, if_false]; exact hdone.step.rav (hR.slots t)
    | some d =>
      simp only [putE, Option.some.injEq]
      by_cases hdt : d = t
      · subst hdt; rw [if_pos rfl, upd_same]; exact hdone.val
      · rw [if_neg hdt, upd_other _ _ (Ne.symm hdt)]; exact hdone.step.rav (hR.slots t)

theorem wanted_true {o : Oper} {S : AS} {β : Nat → HE} {X : Nat → Prop} {a : Act} {w : World} {b : Bool} (hR : Rel S β X a w) (h : runs ops o S.E = some b) : Region.wanted o (yielded ops a.tmps) = b := by
  unfold runs at h
  unfold Region.wanted
  cases hg : o.guard with
  | none => rw [hg] at h; cases h; rfl
  | some g =>
    obtain ⟨j, want⟩ := g
    rw [hg] at h
    simp only at h ⊢
    cases hj : ops[j]? with
    | none => rw [hj] at h; cases h
    | some oj =>
      rw [hj] at h
      simp only at h
      cases hd : oj.dst with
      | none => rw [hd] at h; cases h
      | some d =>
        rw [hd] at h
        simp only at h
        split at h
        · next c hE =>
          have h1 := hR.slots d
          rw [hE] at h1
          have h2 := h1.d_inv.bool_inv
          have h3 : a.tmps[d]? = some (.bool c) := by
            rw [Array.getD_eq_getD_getElem?] at h2
            cases hq : a.tmps[d]? with
            | none => rw [hq] at h2; simp [undef] at h2
            | some u => rw [hq] at h2; simp at h2; rw [h2]
          have h4 : yielded ops a.tmps j = some c := by simp [yielded, hj, hd, h3]
          rw [h4]
          cases c <;> cases want <;> simp at h <;> subst h <;> rfl
        · next vs hE =>
          have h1 := hR.slots d
          rw [hE] at h1
          have h2 := h1.raw_inv
          cases h
          have h4 : yielded ops a.tmps j = none := by
            have : ((ops[j]?).bind (·.dst)).bind (a.tmps[·]?) = a.tmps[d]? := by simp [hj, hd]
            unfold yielded
            rw [this]
            rw [Array.getD_eq_getD_getElem?] at h2
            cases hq : a.tmps[d]? with
            | none => rfl
            | some u => rw [hq] at h2; simp at h2; rw [h2]
          rw [h4]
          rfl
        · cases h

theorem run_ok {fp : Nat → FP} {Q : Exit → Act → World → Prop} : ∀ (L : List Nat) {S S' : AS} {β : Nat → HE} {X : Nat → Prop} {a : Act} {w : World}, RunR P (FnOK P) ops hs fp L S S' → Rel S β X a w →
    (∀ a' w' β', Rel S' β' X a' w' → Step S.O S'.O β β' w w' → Q .normal a' w') → wpOps P ops Q L a w
  | [], S, S', β, X, a, w, h, hR, hQ => by
    cases h
    exact hQ a w β hR (Step.refl _ _ _)
  | i :: r, S, S', β, X, a, w, ⟨S1, obs, h1, hob, hr⟩, hR, hQ => by
    unfold stepOp at h1
    simp only [wpOps]
    split at h1
    · cases h1
    · next o ho =>
      rw [ho]
      simp only
      split at h1
      · next hdo =>
        have hd : ∀ d, o.dst = some d → d < S.nt := fun d hd => by rw [hd] at hdo; simpa [dstOK] using hdo
        split at h1
        · next hrun =>
          rw [wanted_true hR hrun]
          simp only [if_true]
          split at h1
          · next e he =>
            simp only [Option.some.injEq, Prod.mk.injEq] at h1
            obtain ⟨rfl, rfl, -⟩ := h1
            refine .inl (act_ok hR he hob fun v w' β' hdone => ?_)
            exact run_ok r hr (rel_after hR hd hdone) fun a' w2 β2 hR2 hs2 => hQ a' w2 β2 hR2 (hdone.step.trans hs2)
          · cases h1
        · next hrun =>
          rw [wanted_true hR hrun]
          simp only [Bool.false_eq_true, if_false]
          simp only [Option.some.injEq, Prod.mk.injEq] at h1
          obtain ⟨rfl, rfl, -⟩ := h1
          exact run_ok r hr (rel_after (e := ⟨.raw undef, [], []⟩) hR hd ⟨.raw _, hR.objs, Step.refl _ _ _⟩) hQ
        · cases h1
      · cases h1

/-! ### Another order -/

theorem updL_other {O : Nat → Ob} {l : List (Nat × Ob)} {n : Nat} (h : n ∉ l.map (·.1)) : updL O l n = O n := by
  induction l generalizing O with
  | nil => rfl
  | cons p r ih =>
    simp only [List.map_cons, List.mem_cons, not_or] at h
    simp only [updL]
    rw [ih h.2, upd_other _ _ h.1]
theorem updL_congr {O O' : Nat → Ob} {l : List (Nat × Ob)} {n : Nat} (h : n ∈ l.map (·.1)) : updL O l n = updL O' l n := by
  induction l generalizing O O' with
  | nil => simp at h
  | cons p r ih =>
    simp only [updL]
    by_cases hr : n ∈ r.map (·.1)
    · exact ih hr
    · rw [updL_other hr, updL_other hr]
      simp only [List.map_cons, List.mem_cons] at h
      rcases h with h | h
      · subst h; rw [upd_same, upd_same]
      · exact absurd h hr
theorem updL_comm (O : Nat → Ob) {k l : List (Nat × Ob)} (h : ∀ n ∈ k.map (·.1), n ∉ l.map (·.1)) : updL (updL O k) l = updL (updL O l) k := by
  funext n
  by_cases hk : n ∈ k.map (·.1)
  · rw [updL_other (h n hk)]; exact updL_congr hk
  · rw [updL_other (l := k) hk]
    by_cases hl : n ∈ l.map (·.1)
    · exact updL_congr hl
    · rw [updL_other hl, updL_other hl, updL_other hk]
theorem putE_comm (E : Nat → AV) {x y : Option Nat} (u v : AV) (h : ∀ d, x = some d → y ≠ some d) : putE (putE E x u) y v = putE (putE E y v) x u := by
  cases x with
  | none => rfl
  | some a =>
    cases y with
    | none => rfl
    | some b =>
      have hab : a ≠ b := fun e => h a rfl (by rw [e])
      funext t
      simp only [putE, upd]
      by_cases h1 : t = b <;> by_cases h2 : t = a <;> simp_all
theorem putE_other {E : Nat → AV} {x : Option Nat} {v : AV} {t : Nat} (h : x ≠ some t) : putE E x v t = E t := by
  cases x with
  | none => rfl
  | some d => exact upd_other _ _ (fun e => h (by rw [e]))

theorem tmps_mem {l : List Operand} {t : Nat} (h : Operand.tmp t ∈ l) : t ∈ tmpsOf l := by
  induction l with
  | nil => cases h
  | cons x r ih =>
    cases h with
    | head => simp [tmpsOf]
    | tail _ h => cases x <;> simp [tmpsOf, ih h]

theorem actOp_congr {h : OH} {o : Oper} {E E' : Operand → AV} {look : Nat → Ob} (he : ∀ x ∈ o.op.operands.toList, E x = E' x) : actOp P F h o E look = actOp P F h o E' look := by
  obtain ⟨dst, op, type, pos, after, guard⟩ := o
  have maps : ∀ l : List Operand, (∀ x ∈ l, E x = E' x) → l.map E = l.map E' := fun l hl => List.map_congr_left hl
  cases op with
  | build t ps =>
    have : (ps.toList.map fun p => (p.1, E p.2)) = (ps.toList.map fun p => (p.1, E' p.2)) := List.map_congr_left fun p hp => by rw [he p.2 (by simp [Op.operands]; exact ⟨p.1, by simpa using hp⟩)]
    simp only [actOp, this]
  | buildSlice t n ps =>
    have : (ps.toList.map fun p => (p.1, E p.2)) = (ps.toList.map fun p => (p.1, E' p.2)) := List.map_congr_left fun p hp => by rw [he p.2 (by simp [Op.operands]; exact ⟨p.1, by simpa using hp⟩)]
    simp only [actOp, this]
  | makeFunc fn first cap =>
    have := maps cap.toList fun x hx => he x (by simp [Op.operands]; exact .inr (by simpa using hx))
    have this2 := maps first.toList fun x hx => he x (by simp [Op.operands]; exact .inl (by simpa using hx))
    cases fn <;> simp only [actOp, this, this2]
  | slice t x lo hi mx =>
    have h0 := he x (by simp [Op.operands])
    have h1 : optE E lo = optE E' lo := by cases lo with | none => rfl | some y => exact congrArg some (he y (by simp [Op.operands]))
    have h2 : optE E hi = optE E' hi := by cases hi with | none => rfl | some y => exact congrArg some (he y (by simp [Op.operands]))
    have h3 : optE E mx = optE E' mx := by cases mx with | none => rfl | some y => exact congrArg some (he y (by simp [Op.operands]))
    simp only [actOp, h0, h1, h2, h3]
  | call c =>
    have ha := maps c.args.toList fun x hx => he x (by simp [Op.operands, Call.operands]; exact .inr (by simpa using hx))
    cases hc : c.callee with
    | builtin b => simp only [actOp, hc, ha]
    | value f =>
      have hf := he f (by simp [Op.operands, Call.operands, hc])
      simp only [actOp, hc, ha, hf]
    | invoke r m => simp only [actOp, hc]
  | _ =>
    simp only [actOp]
    try simp [Op.operands] at he
    try simp only [he]

theorem act_congr {h : OH} {o : Oper} {S S' : AS} (he : ∀ x ∈ o.op.operands.toList, S.ev x = S'.ev x) (ho : ∀ n ∈ opNames h o S.ev, S.O n = S'.O n) :
    act P F h o S.ev S.O = act P F h o S'.ev S'.O ∧ opNames h o S.ev = opNames h o S'.ev := by
  have hn : opNames h o S.ev = opNames h o S'.ev := by
    unfold opNames argNames
    rw [List.map_congr_left he]
  refine ⟨?_, hn⟩
  unfold act
  have hl : narrow (opNames h o S.ev) S.O = narrow (opNames h o S'.ev) S'.O := by
    funext n
    unfold narrow
    rw [← hn]
    split
    · next hc => exact ho n (by simpa using hc)
    · rfl
  rw [hl, actOp_congr he]

def FP.apart (x y : FP) : Bool :=
  (match x.dst with | some d => !y.rd.contains d && y.dst != some d | none => true) &&
  (match y.dst with | some d => !x.rd.contains d | none => true) &&
  x.wr.all (fun n => !y.seen.contains n && !y.wr.contains n) && y.wr.all (fun n => !x.seen.contains n)

theorem FP.apart_spec {x y : FP} (h : x.apart y = true) : (∀ d, x.dst = some d → d ∉ y.rd ∧ y.dst ≠ some d) ∧ (∀ d, y.dst = some d → d ∉ x.rd) ∧ (∀ n ∈ x.wr, n ∉ y.seen ∧ n ∉ y.wr) ∧ ∀ n ∈ y.wr, n ∉ x.seen := by
  unfold FP.apart at h
  simp only [Bool.and_eq_true] at h
  obtain ⟨⟨⟨h1, h2⟩, h3⟩, h4⟩ := h
  refine ⟨fun d hd => ?_, fun d hd => ?_, fun n hn => ?_, fun n hn => ?_⟩
  · rw [hd] at h1; simpa using h1
  · rw [hd] at h2; simpa using h2
  · have := List.all_eq_true.1 h3 n hn; simpa using this
  · have := List.all_eq_true.1 h4 n hn; simpa using this

theorem ev_put {S : AS} {dst : Option Nat} {v : AV} {O' : Nat → Ob} {x : Operand} (h : ∀ t, x = .tmp t → dst ≠ some t) : AS.ev { S with E := putE S.E dst v, O := O' } x = S.ev x := by
  cases x with
  | tmp t => exact putE_other (h t rfl)
  | _ => rfl

theorem guard_mem {o : Oper} {d : Nat} {j : Nat} {want : Bool} {oj : Oper} (hg : o.guard = some (j, want)) (hj : ops[j]? = some oj) (hd : oj.dst = some d) : d ∈ guardSlot ops o := by
  simp [guardSlot, hg, hj, hd]

theorem runs_congr {o : Oper} {E E' : Nat → AV} (h : ∀ d ∈ guardSlot ops o, E d = E' d) : runs ops o E = runs ops o E' := by
  unfold runs
  cases hg : o.guard with
  | none => rfl
  | some g =>
    obtain ⟨j, want⟩ := g
    simp only
    cases hj : ops[j]? with
    | none => rfl
    | some oj =>
      simp only
      cases hd : oj.dst with
      | none => rfl
      | some d =>
        simp only
        rw [h d (guard_mem hg hj hd)]

/-- What a step depends on. -/
theorem stepOp_local {i : Nat} {S S' S1 : AS} {obs : List Prop} {f : FP} (h : stepOp P F ops hs i S = some (S1, obs, f)) (hnt : S'.nt = S.nt) (hrd : ∀ t ∈ f.rd, S'.E t = S.E t) (hseen : ∀ n ∈ f.seen, S'.O n = S.O n) :
    ∃ (v : AV) (wr : List (Nat × Ob)), f.wr = wr.map (·.1) ∧ S1 = { S with E := putE S.E f.dst v, O := updL S.O wr } ∧
      stepOp P F ops hs i S' = some ({ S' with E := putE S'.E f.dst v, O := updL S'.O wr }, obs, f) := by
  unfold stepOp at h ⊢
  split at h
  · cases h
  · next o ho =>
    have hdok : dstOK S' o.dst = dstOK S o.dst := by simp [dstOK, hnt]
    rw [hdok]
    split at h
    · next hd =>
      rw [if_pos hd]
      split at h
      · next hrun =>
        split at h
        · next e he =>
          simp only [Option.some.injEq, Prod.mk.injEq] at h
          obtain ⟨rfl, rfl, rfl⟩ := h
          simp only at hrd hseen
          have hev : ∀ x ∈ o.op.operands.toList, S.ev x = S'.ev x := fun x hx => by
            cases x with
            | tmp t => exact (hrd t (List.mem_append_left _ (tmps_mem hx))).symm
            | _ => rfl
          obtain ⟨h1, h2⟩ := act_congr (P := P) (F := F) (h := hintAt hs i) hev (fun n hn => (hseen n hn).symm)
          have h3 : runs ops o S'.E = runs ops o S.E := runs_congr fun d hd => hrd d (List.mem_append_right _ hd)
          rw [h3, hrun, ← h1, he, ← h2]
          exact ⟨e.val, e.wr, rfl, rfl, rfl⟩
        · cases h
      · next hrun =>
        simp only [Option.some.injEq, Prod.mk.injEq] at h
        obtain ⟨rfl, rfl, rfl⟩ := h
        simp only at hrd
        have h3 : runs ops o S'.E = runs ops o S.E := runs_congr hrd
        rw [h3, hrun]
        exact ⟨.raw undef, [], rfl, rfl, rfl⟩
      · cases h
    · cases h

theorem swap_ok {fp : Nat → FP} {i j : Nat} {L : List Nat} {S S' : AS} (hap : (fp i).apart (fp j) = true) (h : RunR P F ops hs fp (i :: j :: L) S S') : RunR P F ops hs fp (j :: i :: L) S S' := by
  obtain ⟨S1, ob1, h1, hp1, S2, ob2, h2, hp2, hr⟩ := h
  obtain ⟨a1, a2, a3, a4⟩ := FP.apart_spec hap
  obtain ⟨v, wr, hw, rfl, -⟩ := stepOp_local h1 rfl (fun _ _ => rfl) (fun _ _ => rfl)
  obtain ⟨u, wr2, hw2, rfl, k2⟩ := stepOp_local (S' := S) h2 rfl
    (fun t ht => (putE_other (fun e => (a1 t e).1 ht)).symm)
    (fun n hn => (updL_other (fun hm => (a3 n (by rw [hw]; exact hm)).1 hn)).symm)
  obtain ⟨v', wr', hw', heq, k1⟩ := stepOp_local (S' := { S with E := putE S.E (fp j).dst u, O := updL S.O wr2 }) h1 rfl
    (fun t ht => putE_other (fun e => a2 t e ht))
    (fun n hn => updL_other (fun hm => a4 n (by rw [hw2]; exact hm) hn))
  refine ⟨_, ob2, k2, hp2, _, ob1, k1, hp1, ?_⟩
  have e1 : putE (putE S.E (fp j).dst u) (fp i).dst v' = putE (putE S.E (fp i).dst v) (fp j).dst u := by
    rw [putE_comm _ _ _ (fun d hd hd2 => (a1 d hd2).2 hd)]
    have : putE S.E (fp i).dst v' = putE S.E (fp i).dst v := (congrArg AS.E heq).symm
    rw [this]
  have e2 : updL (updL S.O wr2) wr' = updL (updL S.O wr) wr2 := by
    rw [updL_comm _ (fun n hn hm => (a3 n (by rw [hw']; exact hm)).2 (by rw [hw2]; exact hn))]
    have : updL S.O wr' = updL S.O wr := (congrArg AS.O heq).symm
    rw [this]
  rw [show ({ ({ S with E := putE S.E (fp j).dst u, O := updL S.O wr2 } : AS) with E := putE (putE S.E (fp j).dst u) (fp i).dst v', O := updL (updL S.O wr2) wr' } : AS) =
    { ({ S with E := putE S.E (fp i).dst v, O := updL S.O wr } : AS) with E := putE (putE S.E (fp i).dst v) (fp j).dst u, O := updL (updL S.O wr) wr2 } by rw [e1, e2]]
  exact hr
end
end Sx
end Go.Proofs.Ytfllhedkgeljaaa
