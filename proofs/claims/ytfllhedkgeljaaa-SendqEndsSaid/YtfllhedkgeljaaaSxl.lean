/-
Every operation that the executor knows, run in memory. No condition.
-/
import Derived.Test.YtfllhedkgeljaaaSxk
set_option linter.unusedSimpArgs false
set_option linter.unusedVariables false
namespace Go.Proofs.Ytfllhedkgeljaaa
namespace Sx
open Go.RowKit
section
variable {P : Program} {β : Nat → HE} {X : Nat → Prop} {w : World} {S : AS} {a : Act}

theorem ev_ok (hR : Rel S β X a w) (x : Operand) : AR S.O β X w (S.ev x) (a.eval x) := by
  cases x with
  | tmp t => exact hR.slots t
  | const v => exact constAV_ok v
  | global g => exact .dead _
  | func f => exact .fn f [] #[] rfl fun j x hj => by simp at hj

theorem narrow_looks (names : List Nat) (O : Nat → Ob) : Looks O (narrow names O) := fun n => by
  unfold narrow
  split
  · exact .inl rfl
  · exact .inr rfl

theorem evs_ok (hR : Rel S β X a w) (l : Array Operand) : CR S.O β X w (l.toList.map S.ev) (l.map a.eval) := by
  refine ⟨by simp, fun j x hj => ?_⟩
  rw [List.getElem?_map] at hj
  cases hl : l.toList[j]? with
  | none => rw [hl] at hj; cases hj
  | some o =>
    rw [hl] at hj; cases hj
    have : (l.map a.eval).getD j undef = a.eval o := by
      rw [Array.getD_eq_getD_getElem?, Array.getElem?_map, ← Array.getElem?_toList, hl]; rfl
    rw [this]
    exact ev_ok hR o

theorem parts_ok (hR : Rel S β X a w) (ps : List (Nat × Operand)) : Fa (fun (p : Nat × AV) (q : Nat × Value) => p.1 = q.1 ∧ AR S.O β X w p.2 q.2) (ps.map fun p => (p.1, S.ev p.2)) (ps.map fun (i, x) => (i, a.eval x)) := by
  induction ps with
  | nil => exact .nil
  | cons p r ih => exact Fa.cons (x := (p.1, S.ev p.2)) (y := (p.1, a.eval p.2)) ⟨rfl, ev_ok hR _⟩ ih

theorem optE_ok (hR : Rel S β X a w) (x : Option Operand) : OptR S.O β X w (optE S.ev x) (x.map a.eval) := by
  cases x with
  | none => exact True.intro
  | some o => exact ev_ok hR o

theorem wp_value {o : Oper} {K : Act → World → Prop} {Q : Exit → Act → World → Prop} {v : Value} {w' : World} (hrun : (execOp a.eval o).run P w = .ok (.value v) w') (hK : K (a.put o.dst v) w') : o.wp P a w K Q := by
  unfold Oper.wp; rw [hrun]; exact hK
theorem wp_skip' {o : Oper} {K : Act → World → Prop} {Q : Exit → Act → World → Prop} {w' : World} (hrun : (execOp a.eval o).run P w = .ok .skip w') (hK : K (a.put o.dst undef) w') : o.wp P a w K Q := by
  unfold Oper.wp; rw [hrun]; exact hK
theorem wp_enter {o : Oper} {K : Act → World → Prop} {Q : Exit → Act → World → Prop} {f : FuncId} {args : Array Value} (hrun : (execOp a.eval o).run P w = .ok (.enter f args) w)
    (hK : Calls P f args w fun e w' => ∃ v, e = .returned v ∧ K (a.put o.dst v) w') : o.wp P a w K Q := by
  unfold Oper.wp; rw [hrun]
  exact hK.mono fun e w' ⟨v, he, hk⟩ => by subst he; exact hk

theorem Fa_of {α β' : Type} {R : α → β' → Prop} {l : List α} {m : List β'} (h : l.length = m.length) (hh : ∀ (j : Nat) (x : α) (y : β'), l[j]? = some x → m[j]? = some y → R x y) : Fa R l m := by
  induction l generalizing m with
  | nil => cases m with | nil => exact .nil | cons _ _ => simp at h
  | cons x r ih =>
    cases m with
    | nil => simp at h
    | cons y s => exact .cons (hh 0 x y rfl rfl) (ih (by simpa using h) fun j a b ha hb => hh (j + 1) a b (by simpa using ha) (by simpa using hb))

theorem exec_buildSlice (ρ : Operand → Value) (o : Oper) (T : TypeId) (n : Nat) (ps : Array (Nat × Operand)) (h : o.op = .buildSlice T n ps) :
    execOp ρ o = (do pure (Next.value (← Instr.buildSlice T n (ps.map fun (i, x) => (i, ρ x))))) := by
  unfold execOp
  rw [h]

/-- What is known behind an operation. -/
def After (S : AS) (e : Eff) (β : Nat → HE) (X : Nat → Prop) (w : World) (o : Oper) (a : Act) (K : Act → World → Prop) : Prop :=
  ∀ v w' β', Done S.O β X w e v β' w' → K (a.put o.dst v) w'

theorem funcs_call {f : FuncId} (h : CallOK P f) (args : Array Value) (w : World) : (callFunc f args).run P w = .ok (.enter f args) w := by
  obtain ⟨fn, h1, h2, h3⟩ := h
  have h4 : fn.body.isNone = false := by
    cases hb : fn.body with
    | none => rw [hb] at h2; cases h2
    | some c => rfl
  simp only [callFunc, Sem.run_bind, run_program, Result.andThen_ok, h1, h3, Bool.false_eq_true, if_false, h4]
  rfl

theorem CR.append {O : Nat → Ob} {cs ds : List AV} {vs us : Array Value} (h : CR O β X w cs vs) (k : CR O β X w ds us) : CR O β X w (cs ++ ds) (vs ++ us) := by
  refine ⟨by simp [h.size, k.size], fun j x hj => ?_⟩
  rw [Array.getD_eq_getD_getElem?]
  by_cases hlt : j < cs.length
  · rw [List.getElem?_append_left hlt] at hj
    rw [Array.getElem?_append_left (by rw [h.size]; exact hlt), ← Array.getD_eq_getD_getElem?]
    exact h.at_ j x hj
  · rw [List.getElem?_append_right (by omega)] at hj
    rw [Array.getElem?_append_right (by rw [h.size]; omega), ← Array.getD_eq_getD_getElem?, h.size]
    exact k.at_ _ x hj

set_option maxHeartbeats 1000000 in
theorem actOp_ok {h : OH} {o : Oper} {e : Eff} {look : Nat → Ob} {K : Act → World → Prop} {Q : Exit → Act → World → Prop} (hR : Rel S β X a w) (hl : Looks S.O look) (ha : actOp P (FnOK P) h o S.ev look = some e) (hob : ∀ p ∈ e.obs, p)
    (hK : After S e β X w o a K) : o.wp P a w K Q := by
  have hO := hR.objs
  -- an operation that reads alone
  have pure1 : ∀ (m : Sem Value) (v : Value), (execOp a.eval o) = (do pure (Next.value (← m))) → m.run P w = .ok v w → AR S.O β X w e.val v → e.wr = [] → o.wp P a w K Q := by
    intro m v h1 h2 h3 h4
    refine wp_value (v := v) (w' := w) (by rw [h1]; simp only [Sem.run_bind, h2, Result.andThen_ok]; rfl) (hK v w β ?_)
    obtain ⟨val, wr, obs⟩ := e
    simp only at h4
    subst h4
    exact Done.pure hO h3
  have mem1 : ∀ (m : Sem Value), (execOp a.eval o) = (do pure (Next.value (← m))) → (∃ v w' β', m.run P w = .ok v w' ∧ Done S.O β X w e v β' w') → o.wp P a w K Q := by
    rintro m h1 ⟨v, w', β', h2, h3⟩
    exact wp_value (v := v) (w' := w') (by rw [h1]; simp only [Sem.run_bind, h2, Result.andThen_ok]; rfl) (hK v w' β' h3)
  obtain ⟨dst, op, type, pos, after, guard⟩ := o
  cases op with
  | move x =>
    change pureE (S.ev x) = some e at ha; cases ha
    exact wp_value rfl (hK _ _ _ (Done.pure hO (ev_ok hR x)))
  | assign x =>
    change pureE (S.ev x) = some e at ha; cases ha
    exact wp_value rfl (hK _ _ _ (Done.pure hO (ev_ok hR x)))
  | pick c x y =>
    change (match S.ev c with | .d (.bool true) => pureE (S.ev x) | .d (.bool false) => pureE (S.ev y) | _ => none) = some e at ha
    split at ha
    · next hc =>
      cases ha
      have h1 := ev_ok hR c
      rw [hc] at h1
      have h2 := h1.d_inv.bool_inv
      refine wp_value (v := a.eval x) (w' := w) ?_ (hK _ _ _ (Done.pure hO (ev_ok hR x)))
      simp [execOp, h2, asBool]
    · next hc =>
      cases ha
      have h1 := ev_ok hR c
      rw [hc] at h1
      have h2 := h1.d_inv.bool_inv
      refine wp_value (v := a.eval y) (w' := w) ?_ (hK _ _ _ (Done.pure hO (ev_ok hR y)))
      simp [execOp, h2, asBool]
    · cases ha
  | alloc T => change actAlloc P _ T h look = some e at ha; exact mem1 (Instr.alloc T true (.tuple #[])) rfl (actAlloc_ok hO hl ha)
  | box T x => change actBox _ (S.ev x) look = some e at ha; exact mem1 (Instr.box T (a.eval x)) rfl (actBox_ok hO hl (ev_ok hR x) ha)
  | build T ps =>
    change actBuild P T (ps.toList.map fun p => (p.1, S.ev p.2)) = some e at ha
    obtain ⟨v, h1, h2, h3⟩ := actBuild_ok (vparts := ps.map fun (i, x) => (i, a.eval x)) (by rw [Array.toList_map]; exact parts_ok hR ps.toList) ha
    exact pure1 (Instr.build T (ps.map fun (i, x) => (i, a.eval x))) v rfl h1 h2 h3
  | buildSlice T n ps =>
    change actBuildSlice P _ T n (ps.toList.map fun p => (p.1, S.ev p.2)) look = some e at ha
    have hp : Fa (fun (p : Nat × AV) (q : Nat × Value) => p.1 = q.1 ∧ AR S.O β X w p.2 q.2) (ps.toList.map fun p => (p.1, S.ev p.2)) (ps.map fun (i, x) => (i, a.eval x)).toList := by
      rw [Array.toList_map]; exact parts_ok hR ps.toList
    have h1 := actBuildSlice_ok hO hl hp ha
    have h2 := exec_buildSlice a.eval ⟨dst, .buildSlice T n ps, type, pos, after, guard⟩ T n ps rfl
    exact mem1 _ h2 h1
  | load T x =>
    change actLoad P T (S.ev x) h look = some e at ha
    obtain ⟨v, h1, h2, h3⟩ := actLoad_ok hO hl (ev_ok hR x) ha hob
    exact pure1 (Instr.loadAt T (a.eval x)) v rfl h1 h2 h3
  | store T x y =>
    change actStore P T (S.ev x) (S.ev y) h look = some e at ha
    obtain ⟨w', β', h1, h2⟩ := actStore_ok hO hl (ev_ok hR x) (ev_ok hR y) ha hob
    exact wp_skip' (w' := w') (by simp only [execOp, Sem.run_bind, h1, Result.andThen_ok]; rfl) (hK _ _ _ h2)
  | nilCheck x =>
    change (match S.ev x with | .ptr o off => (match look o with | .box _ => pureE (.ptr o off) | _ => none) | .rptr o sz i off => (match look o with | .row _ es => some ⟨.rptr o sz i off, [], [es ≠ []]⟩ | _ => none) | .fn f cap => pureE (.fn f cap) | _ => none) = some e at ha
    split at ha
    · next o off hx =>
      split at ha
      · next cs hlk =>
        cases ha
        obtain ⟨b, cur, t, lo, hi, hβ, -⟩ := hO.box (hl.box hlk)
        have h1 := ev_ok hR x
        rw [hx] at h1
        generalize hv : a.eval x = v at h1
        have h1' := h1
        cases h1 with
        | ptr o off v hC hone hv2 =>
          obtain rfl := hv2 b hβ
          exact wp_value (v := .pointer (some ⟨b, off, none⟩)) (w' := w) (by simp only [execOp, hv]; rfl) (hK _ _ _ (Done.pure hO h1'))
      · cases ha
    · next o sz i off hx =>
      split at ha
      · next szr es hlk =>
        cases ha
        have hne : es ≠ [] := hob _ (by simp)
        have h1 := ev_ok hR x
        rw [hx] at h1
        generalize hv : a.eval x = v at h1
        have h1' := h1
        rcases hO.row (hl.row hlk) with ⟨hes, -⟩ | ⟨b, cur, t, lo, hi, hβ, -⟩
        · exact absurd hes hne
        · cases h1 with
          | rptr o sz i off v hC hone hv2 =>
            obtain ⟨-, rfl⟩ := hv2 _ _ _ _ hβ
            exact wp_value (v := .pointer (some ⟨b, i * sz + off, none⟩)) (w' := w) (by simp only [execOp, hv]; rfl) (hK _ _ _ (Done.pure hO h1'))
      · cases ha
    · next f cap hx =>
      cases ha
      have h1 := ev_ok hR x
      rw [hx] at h1
      generalize hv : a.eval x = v at h1
      have h1' := h1
      cases h1 with
      | fn f cs vs hl2 hr => exact wp_value (v := .func (.func f) #[] vs) (w' := w) (by simp only [execOp, hv]; rfl) (hK _ _ _ (Done.pure hO h1'))
    · cases ha
  | binOp op T x y U =>
    change actBin P op T (S.ev x) (S.ev y) look = some e at ha
    obtain ⟨v, h1, h2, h3⟩ := actBin_ok (xo := x) (yo := y) hO hl (ev_ok hR x) (ev_ok hR y) ha hob
    exact pure1 (do eqGuard op T x y (a.eval x) (a.eval y); binOp op T (a.eval x) (a.eval y)) v rfl h1 h2 h3
  | unOp op T x =>
    change actUn op (S.ev x) = some e at ha
    obtain ⟨v, h1, h2, h3⟩ := actUn_ok (ev_ok hR x) ha
    exact pure1 (Op.unary op (a.eval x)) v rfl h1 h2 h3
  | convert s t x =>
    change actConvert P _ s t (S.ev x) h look = some e at ha
    by_cases hst : ∃ el, P.underlying s = some .string ∧ P.underlying t = some (.slice el)
    · obtain ⟨el, hs, ht⟩ := hst
      exact mem1 (convert s t (a.eval x)) rfl (actConvertBytes_ok hO hl (ev_ok hR x) hs ht ha)
    · by_cases hsm : ∃ el el', P.underlying s = some (.slice el) ∧ P.underlying t = some (.slice el')
      · obtain ⟨el, el', hs, ht⟩ := hsm
        exact mem1 (convert s t (a.eval x)) rfl (actConvertMark_ok hO hl (ev_ok hR x) hs ht ha hob)
      · obtain ⟨v, h1, h2, h3⟩ := actConvert_ok hO hl (ev_ok hR x) ha hob (fun el hh => hst ⟨el, hh⟩) (fun el el' hh => hsm ⟨el, el', hh⟩)
        exact pure1 (convert s t (a.eval x)) v rfl h1 h2 h3
  | makeFunc fn first cap =>
    cases fn with
    | func f =>
      change (if first.isEmpty then pureE (.fn f (cap.toList.map S.ev)) else if cap.isEmpty then pureE (.meth f (first.toList.map S.ev)) else none) = some e at ha
      split at ha
      · next hf =>
        cases ha
        have hf2 : first = #[] := by simpa using hf
        subst hf2
        refine wp_value (v := .func (.func f) #[] (cap.map a.eval)) (w' := w) (by simp [execOp, Instr.makeFunc]) (hK _ _ _ (Done.pure hO ?_))
        have h1 := evs_ok hR cap
        exact .fn f _ _ h1.size h1.at_
      · split at ha
        · next hf =>
          cases ha
          have hf2 : cap = #[] := by simpa using hf
          subst hf2
          refine wp_value (v := .func (.func f) (first.map a.eval) #[]) (w' := w) (by simp [execOp, Instr.makeFunc]) (hK _ _ _ (Done.pure hO ?_))
          have h1 := evs_ok hR first
          exact .meth f _ _ h1.size h1.at_
        · cases ha
    | _ => cases ha
  | makeSlice T x y => change actMake P _ T (S.ev x) (S.ev y) look = some e at ha; exact mem1 (Instr.makeSlice T (a.eval x) (a.eval y)) rfl (actMake_ok hO hl (ev_ok hR x) (ev_ok hR y) ha hob)
  | slice T x lo hi mx =>
    change actSlice P T (S.ev x) (optE S.ev lo) (optE S.ev hi) (optE S.ev mx) look = some e at ha
    obtain ⟨v, h1, h2, h3⟩ := actSlice_ok hO hl (ev_ok hR x) (optE_ok hR lo) (optE_ok hR hi) (optE_ok hR mx) ha hob
    exact pure1 (Instr.sliceAt T (a.eval x) (lo.map a.eval) (hi.map a.eval) (mx.map a.eval)) v rfl h1 h2 h3
  | fieldAddr T x f =>
    change actFieldAddr P T (S.ev x) f look = some e at ha
    obtain ⟨v, h1, h2, h3⟩ := actFieldAddr_ok hO hl (ev_ok hR x) ha hob
    exact pure1 (Instr.fieldAt T (a.eval x) f) v rfl h1 h2 h3
  | field T x f =>
    change actField P T (S.ev x) f = some e at ha
    obtain ⟨v, h1, h2, h3⟩ := actField_ok (ev_ok hR x) ha
    exact pure1 (Instr.field T (a.eval x) f) v rfl h1 h2 h3
  | indexAddr T x i =>
    change actIndexAddr P T (S.ev x) (S.ev i) h look = some e at ha
    obtain ⟨v, h1, h2, h3⟩ := actIndexAddr_ok hO hl (ev_ok hR x) (ev_ok hR i) ha hob
    exact pure1 (Instr.indexAt T (a.eval x) (a.eval i)) v rfl h1 h2 h3
  | index T x i =>
    change actIndex P T (S.ev x) (S.ev i) h = some e at ha
    obtain ⟨v, h1, h2, h3⟩ := actIndex_ok (ev_ok hR x) (ev_ok hR i) ha hob
    exact pure1 (Instr.index T (a.eval x) (a.eval i)) v rfl h1 h2 h3
  | extract x i =>
    change (match S.ev x with | .tup vs => (match vs[i]? with | some v => pureE v | none => none) | _ => none) = some e at ha
    split at ha
    · next vs hx =>
      split at ha
      · next y hy =>
        cases ha
        have h1 := ev_ok hR x
        rw [hx] at h1
        generalize hv : a.eval x = v at h1
        cases h1 with
        | tup cs us hl2 hr =>
          have hi := (List.getElem?_eq_some_iff.1 hy).1
          have hu : us[i]? = some (us.getD i undef) := by simp [Array.getD_eq_getD_getElem?, show i < us.size by omega]
          exact pure1 (Instr.extract (a.eval x) i) (us.getD i undef) rfl (by simp only [Instr.extract, hv, hu]; rfl) (hr i y hy) rfl
      · cases ha
    · cases ha
  | call c =>
    change (match c.callee with
      | .builtin b => actBuiltin P _ b c.argTypes.toList (c.args.toList.map S.ev) look
      | .value f => match calleeOf (S.ev f) with | some (g, fs, cap) => actCall (FnOK P) _ g (fs ++ (c.args.toList.map S.ev ++ cap)) h look | none => none
      | .invoke _ _ => none) = some e at ha
    split at ha
    · next b hcb =>
      -- a builtin
      have hx : ∀ s : Sem Value, builtin b c.argTypes type (c.args.map fun | .const _ => true | _ => false) (c.args.map a.eval) = (do pure (Next.value (← s))) →
          execOp a.eval ⟨dst, .call c, type, pos, after, guard⟩ = (do pure (Next.value (← s))) := by
        intro s hs
        simp only [execOp, resolve, hcb, pure_bind, invoke]
        exact hs
      have hargs := evs_ok hR c.args
      unfold actBuiltin at ha
      split at ha
      · next T ts x hts hxs =>
        split at ha
        · next n hn =>
          cases ha
          have h0 : c.argTypes[0]? = some T := by rw [← Array.getElem?_toList, hts]; rfl
          have hx1 := hargs.at_ 0 x (by rw [hxs]; rfl)
          have hsz := hargs.size
          rw [hxs] at hsz
          have hv : (c.args.map a.eval)[0]? = some ((c.args.map a.eval).getD 0 undef) := by
            have h9 : 0 < (c.args.map a.eval).size := by rw [hsz]; simp
            rw [Array.getD_eq_getD_getElem?, Array.getElem?_eq_getElem h9]; rfl
          exact pure1 (Builtin.len_ c.argTypes type (c.args.map a.eval)) (.int .i64 n) (hx (Builtin.len_ c.argTypes type (c.args.map a.eval)) rfl) (lenOf_ok hO hl hx1 hn h0 hv) (.d _ _ (.int _ _)) rfl
        · cases ha
      · next hxs =>
        split at ha
        · next k n hm =>
          cases ha
          have hfa : Fa (AR S.O β X w) (c.args.toList.map S.ev) (c.args.map a.eval).toList := by
            refine Fa_of (by simp) fun j x y h1 h2 => ?_
            have := hargs.at_ j x h1
            rwa [Array.getD_eq_getD_getElem?, ← Array.getElem?_toList, h2] at this
          refine pure1 (Builtin.min_ c.argTypes type (c.args.map a.eval)) (.int k n) (hx _ rfl) ?_ (.d _ _ (.int _ _)) rfl
          unfold Builtin.min_
          generalize hvs : (c.args.map a.eval).toList = vs at hfa
          generalize c.args.toList.map S.ev = xs at hfa hm
          unfold minI at hm
          split at hm
          · next k' a0 r =>
            cases hfa with
            | cons hx1 hr =>
              obtain rfl := hx1.d_inv.int_inv
              split at hm
              · next m hm2 => cases hm; exact minFrom_ok hm2 hr
              · cases hm
          · cases hm
        · cases ha
      · next hxs =>
        split at ha
        · next k n hm =>
          cases ha
          have hfa : Fa (AR S.O β X w) (c.args.toList.map S.ev) (c.args.map a.eval).toList := by
            refine Fa_of (by simp) fun j x y h1 h2 => ?_
            have := hargs.at_ j x h1
            rwa [Array.getD_eq_getD_getElem?, ← Array.getElem?_toList, h2] at this
          refine pure1 (Builtin.max_ c.argTypes type (c.args.map a.eval)) (.int k n) (hx _ rfl) ?_ (.d _ _ (.int _ _)) rfl
          unfold Builtin.max_
          generalize hvs : (c.args.map a.eval).toList = vs at hfa
          generalize c.args.toList.map S.ev = xs at hfa hm
          unfold maxI at hm
          split at hm
          · next k' a0 r =>
            cases hfa with
            | cons hx1 hr =>
              obtain rfl := hx1.d_inv.int_inv
              split at hm
              · next m hm2 => cases hm; exact maxFrom_ok hm2 hr
              · cases hm
          · cases hm
        · cases ha
      · next T U s x hts hxs =>
        have ht : c.argTypes = #[T, U] := by apply Array.ext'; exact hts
        have h0 := hargs.at_ 0 s (by rw [hxs]; rfl)
        have h1 := hargs.at_ 1 x (by rw [hxs]; rfl)
        have hsz := hargs.size
        rw [hxs] at hsz
        have hv : c.args.map a.eval = #[(c.args.map a.eval).getD 0 undef, (c.args.map a.eval).getD 1 undef] := by
          generalize c.args.map a.eval = q at hsz
          obtain ⟨q⟩ := q
          match q, hsz with
          | [q0, q1], _ => rfl
        refine mem1 (Builtin.append_ c.argTypes type (c.args.map a.eval)) (hx _ rfl) ?_
        rw [hv, ht]
        split at ha
        · next e' hin => cases ha; exact actAppendIn_ok hO hl h0 h1 hin hob
        · exact actAppend_ok hO hl h0 h1 ha hob
      · next T x hts hxs =>
        have ht : c.argTypes = #[T] := by apply Array.ext'; exact hts
        have h0 := hargs.at_ 0 x (by rw [hxs]; rfl)
        have hsz := hargs.size
        rw [hxs] at hsz
        have hv : c.args.map a.eval = #[(c.args.map a.eval).getD 0 undef] := by
          generalize c.args.map a.eval = q at hsz
          obtain ⟨q⟩ := q
          match q, hsz with
          | [q0], _ => rfl
        refine mem1 (Builtin.clear_ c.argTypes type (c.args.map a.eval)) (hx _ rfl) ?_
        rw [hv, ht]
        exact actClear_ok hO hl h0 ha hob
      · next T ts p n c1 hts hxs =>
        split at ha
        · next el hT =>
          cases ha
          have h0 := hargs.at_ 0 _ (by rw [hxs]; rfl)
          have h1 := h0.raw_inv
          have hsz := hargs.size
          rw [hxs] at hsz
          have hv : c.args.map a.eval = #[.slice p n c1] := by
            generalize c.args.map a.eval = q at hsz h1
            obtain ⟨q⟩ := q
            match q, hsz with
            | [q0], _ => simp at h1; rw [h1]
          have ht : c.argTypes[0]? = some T := by
            rw [← Array.getElem?_toList, hts]; rfl
          refine pure1 (Builtin.cap_ c.argTypes type (c.args.map a.eval)) (.int .i64 c1) (hx _ rfl) ?_ (.d _ _ (.int _ _)) rfl
          rw [hv]
          unfold Builtin.cap_
          rw [ht]
          simp only [List.getElem?_toArray, List.getElem?_cons_zero, Sem.run_bind, run_underlying hT, Result.andThen_ok]
          rfl
        · cases ha
      · cases ha
    · next f hcv =>
      split at ha
      · next g fs cap hcal =>
        have hfv := ev_ok hR f
        unfold calleeOf at hcal
        split at hcal
        · next f' cap' hef =>
          cases hcal
          rw [hef] at hfv
          generalize hv : a.eval f = v at hfv
          cases hfv with
          | fn f cs vs hl2 hr =>
            have hcr := (evs_ok hR c.args).append (CR.mk hl2 hr)
            obtain ⟨hcall, hcalls⟩ := actCall_ok (w := w) hO hl hcr ha hob
            refine wp_enter (f := g) (args := c.args.map a.eval ++ vs) ?_ (hcalls.mono fun en w' ⟨v, β', h1, h2⟩ => ⟨v, h1, hK v w' β' h2⟩)
            simp only [execOp, resolve, hcv, hv, Deferred.ofValue, pure_bind, invoke]
            simpa using funcs_call hcall _ w
        · next f' fs' hef =>
          cases hcal
          rw [hef] at hfv
          generalize hv : a.eval f = v at hfv
          cases hfv with
          | meth f cs vs hl2 hr =>
            have hcr := (CR.mk hl2 hr).append (evs_ok hR c.args)
            rw [List.append_nil] at ha
            obtain ⟨hcall, hcalls⟩ := actCall_ok (w := w) hO hl hcr ha hob
            refine wp_enter (f := g) (args := vs ++ c.args.map a.eval) ?_ (hcalls.mono fun en w' ⟨v, β', h1, h2⟩ => ⟨v, h1, hK v w' β' h2⟩)
            simp only [execOp, resolve, hcv, hv, Deferred.ofValue, pure_bind, invoke]
            simpa using funcs_call hcall _ w
        · cases hcal
      · cases ha
    · cases ha
  | _ => cases ha

theorem act_ok {h : OH} {o : Oper} {e : Eff} {K : Act → World → Prop} {Q : Exit → Act → World → Prop} (hR : Rel S β X a w) (ha : act P (FnOK P) h o S.ev S.O = some e) (hob : ∀ p ∈ e.obs, p)
    (hK : After S e β X w o a K) : o.wp P a w K Q := by
  unfold act at ha
  split at ha
  · next e0 he0 =>
    unfold retell at ha
    split at ha
    · next d' =>
      split at ha
      · next d hd =>
        cases ha
        have heq : d = d' := hob _ (by simp)
        subst heq
        refine actOp_ok hR (narrow_looks _ _) he0 (fun p hp => hob p (by simp [hp])) fun v w' β' hdone => hK v w' β' ⟨?_, hdone.objs, hdone.step⟩
        have := hdone.val
        rw [hd] at this
        exact this
      · cases ha
    · cases ha
      exact actOp_ok hR (narrow_looks _ _) he0 hob hK
  · cases ha
end
end Sx
end Go.Proofs.Ytfllhedkgeljaaa
