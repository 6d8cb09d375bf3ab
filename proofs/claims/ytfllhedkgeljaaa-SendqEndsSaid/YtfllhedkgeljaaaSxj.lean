/-
Contracts, and calls by a contract. No condition.
-/
import Derived.Test.YtfllhedkgeljaaaSxi
set_option linter.unusedSimpArgs false
set_option linter.unusedVariables false
namespace Go.Proofs.Ytfllhedkgeljaaa
namespace Sx
open Go.RowKit

def Oof (l : List Ob) (n : Nat) : Ob := match l[n]? with | some x => x | none => .none

/-- A function with a text of its own. -/
def CallOK (P : Program) (f : FuncId) : Prop := ∃ fn, P.funcs[f]? = some fn ∧ fn.body.isSome = true ∧ (fn.name == "runtime.NumGoroutine") = false

/-- THE CONTRACT: called with values that stand for `args` (over the objects `ins`) the function answers a value that stands for `rv`, over the objects `outs`; nothing else that was there has turned. -/
def FnOK (P : Program) : FnRel := fun f args ins rv outs => CallOK P f ∧
  ∀ (w : World) (X : Nat → Prop) (β : Nat → HE) (vs : Array Value), Objs (Oof ins) β X w → CR (Oof ins) β X w args vs →
    Calls P f vs w fun e w' => ∃ v β', e = .returned v ∧ AR (Oof outs) β' X w' rv v ∧ Objs (Oof outs) β' X w' ∧ Step (Oof ins) (Oof outs) β β' w w'

section
variable {P : Program} {O : Nat → Ob} {β : Nat → HE} {X : Nat → Prop} {w : World} {look : Nat → Ob}

theorem renL_get {ρ : Nat → Nat} {cs : List AV} {j : Nat} : (AV.renL ρ cs)[j]? = (cs[j]?).map (AV.ren ρ) := by
  induction cs generalizing j with
  | nil => rfl
  | cons c r ih =>
    cases j with
    | zero => rfl
    | succ j => simp only [AV.renL, List.getElem?_cons_succ]; exact ih
theorem renL_len {ρ : Nat → Nat} {cs : List AV} : (AV.renL ρ cs).length = cs.length := by
  induction cs with
  | nil => rfl
  | cons c r ih => simp [AV.renL, ih]
theorem namesL_mem {cs : List AV} {j : Nat} {x : AV} (h : cs[j]? = some x) {n : Nat} (hn : n ∈ x.names) : n ∈ AV.namesL cs := by
  induction cs generalizing j with
  | nil => simp at h
  | cons c r ih =>
    cases j with
    | zero => cases h; simp [AV.namesL, hn]
    | succ j => simp only [AV.namesL, List.mem_append]; exact .inr (ih h)

theorem RAV.ren {M M' : Nat → Prop} {β' : Nat → HE} {C C' : Nat → Prop} {x : AV} {v : Value} {ρ : Nat → Nat} (h : RAV w M β C x v) (hM : ∀ b, M' b → M b)
    (hn : ∀ n ∈ x.names, C n → C' (ρ n) ∧ (β' (ρ n) = β n ∨ β' (ρ n) = .gone)) : RAV w M' β' C' (x.ren ρ) v := by
  induction h with
  | d d v h => exact .d d v (h.mono (T := fun _ => False) (Evo.refl _ _) (fun _ h => h.elim) (fun b hb => .inl (hM b hb)))
  | raw v => exact .raw v
  | ptr o off v ho hone h =>
    obtain ⟨h1, h2⟩ := hn o (by simp [AV.names]) ho
    refine .ptr _ off v h1 hone fun b hb => ?_
    rcases h2 with h2 | h2
    · exact h b (h2 ▸ hb)
    · rw [h2] at hb; cases hb
  | rptr o sz i off v ho hone h =>
    obtain ⟨h1, h2⟩ := hn o (by simp [AV.names]) ho
    refine .rptr _ sz i off v h1 hone fun sz' len b n hb => ?_
    rcases h2 with h2 | h2
    · exact h sz' len b n (h2 ▸ hb)
    · rw [h2] at hb; cases hb
  | eptr e off p f hb hnM ho hc hr =>
    exact .eptr e off p f hb (fun hm => hnM (hM _ hm)) ho hc fun j d hj => (hr j d hj).mono (T := fun _ => False) (Evo.refl _ _) (fun _ h => h.elim) (fun b hb => .inl (hM b hb))
  | own o sz v ho hone h =>
    obtain ⟨h1, h2⟩ := hn o (by simp [AV.names]) ho
    refine .own _ sz v h1 hone fun sz' len g hb => ?_
    rcases h2 with h2 | h2
    · exact h sz' len g (h2 ▸ hb)
    · rw [h2] at hb; cases hb
  | sub o sz lo n v ho hone h =>
    obtain ⟨h1, h2⟩ := hn o (by simp [AV.names]) ho
    refine .sub _ sz lo n v h1 hone fun sz' len g hb => ?_
    rcases h2 with h2 | h2
    · exact h sz' len g (h2 ▸ hb)
    · rw [h2] at hb; cases hb
  | agg cs vs hl _ ih =>
    refine .agg _ vs (by rw [renL_len]; exact hl) fun j x hj => ?_
    rw [renL_get] at hj
    cases hx : cs[j]? with
    | none => rw [hx] at hj; cases hj
    | some y => rw [hx] at hj; cases hj; exact ih j y hx fun n h1 h2 => hn n (by simp only [AV.names]; exact namesL_mem hx h1) h2
  | tup cs vs hl _ ih =>
    refine .tup _ vs (by rw [renL_len]; exact hl) fun j x hj => ?_
    rw [renL_get] at hj
    cases hx : cs[j]? with
    | none => rw [hx] at hj; cases hj
    | some y => rw [hx] at hj; cases hj; exact ih j y hx fun n h1 h2 => hn n (by simp only [AV.names]; exact namesL_mem hx h1) h2
  | fn f cs vs hl _ ih =>
    refine .fn f _ vs (by rw [renL_len]; exact hl) fun j x hj => ?_
    rw [renL_get] at hj
    cases hx : cs[j]? with
    | none => rw [hx] at hj; cases hj
    | some y => rw [hx] at hj; cases hj; exact ih j y hx fun n h1 h2 => hn n (by simp only [AV.names]; exact namesL_mem hx h1) h2
  | meth f cs vs hl _ ih =>
    refine .meth f _ vs (by rw [renL_len]; exact hl) fun j x hj => ?_
    rw [renL_get] at hj
    cases hx : cs[j]? with
    | none => rw [hx] at hj; cases hj
    | some y => rw [hx] at hj; cases hj; exact ih j y hx fun n h1 h2 => hn n (by simp only [AV.names]; exact namesL_mem hx h1) h2
  | dead v => exact .dead v

theorem ObjRel.ren {M M' : Nat → Prop} {β' : Nat → HE} {C C' : Nat → Prop} {x : Ob} {g : HE} {ρ : Nat → Nat} (h : ObjRel w M β C x g) (hM : ∀ b, M' b → M b)
    (hn : ∀ n ∈ x.names, C n → C' (ρ n) ∧ (β' (ρ n) = β n ∨ β' (ρ n) = .gone)) : ObjRel w M' β' C' (x.ren ρ) g := by
  cases h with
  | none => exact .none
  | gone => exact .gone
  | box cs b cur t lo hi hb hf hl h =>
    refine .box _ b cur t lo hi hb hf (by rw [renL_len]; exact hl) fun j x hj => ?_
    rw [renL_get] at hj
    cases hx : cs[j]? with
    | none => rw [hx] at hj; cases hj
    | some y => rw [hx] at hj; cases hj; exact (h j y hx).ren hM fun n h1 h2 => hn n (by simp only [Ob.names]; exact namesL_mem hx h1) h2
  | rowN sz => exact .rowN sz
  | row sz es b cur t lo hi hb hf hsz hl hr =>
    exact .row sz es b cur t lo hi hb hf hsz hl fun i j e d h1 h2 => (hr i j e d h1 h2).mono (T := fun _ => False) (Evo.refl _ _) (fun _ h => h.elim) (fun b hb => .inl (hM b hb))

theorem Ob.ren_none {x : Ob} {ρ : Nat → Nat} : x.ren ρ = .none ↔ x = .none := by cases x <;> simp [Ob.ren]

theorem viewL_get {kn : Bool} {who : List Nat} {cs l : List AV} {b : Bool} (h : AV.viewL look kn who cs = some (l, b)) :
    l.length = cs.length ∧ ∀ (j : Nat) (x : AV), cs[j]? = some x → ∃ (x' : AV) (b' : Bool), l[j]? = some x' ∧ AV.view look kn who x = some (x', b') ∧ (b = false → b' = false) := by
  induction cs generalizing l b with
  | nil => simp only [AV.viewL] at h; cases h; exact ⟨rfl, fun j x hj => by simp at hj⟩
  | cons c r ih =>
    simp only [AV.viewL] at h
    split at h
    · next x b1 m b2 h1 h2 =>
      cases h
      obtain ⟨h3, h4⟩ := ih h2
      refine ⟨by simp [h3], fun j y hj => ?_⟩
      cases j with
      | zero => cases hj; exact ⟨x, b1, rfl, h1, fun hb => by simp at hb; exact hb.1⟩
      | succ j =>
        obtain ⟨x', b', h5, h6, h7⟩ := h4 j y hj
        exact ⟨x', b', h5, h6, fun hb => h7 (by simp at hb; exact hb.2)⟩
    · cases h

theorem row_data {sz : Nat} {es : List D} {a : Option Addr} {c : Nat} {M' : Nat → Prop} (hE : Elems O β X w sz es a) (hn : es.length ≤ c) (hM : ∀ b, M' b → Mset X β b) (hnot : ∀ ad, a = some ad → es ≠ [] → ¬ M' ad.block) :
    RepD w M' (.sl es) (.slice a es.length c) := by
  by_cases hes : es = []
  · subst hes; exact .nil _ _
  · obtain ⟨ad, f, rfl, hb, hc, hr⟩ := hE.at_ hes
    exact .sl es ad c sz f hn hb (hnot ad rfl hes) hE.ok hc fun i j e d h1 h2 => (hr i j e d h1 h2).mono (T := fun _ => False) (Evo.refl _ _) (fun _ h => h.elim) (fun b hb => .inl (hM b hb))

theorem view_ok {kn : Bool} {who : List Nat} {M' : Nat → Prop} {x x' : AV} {lent : Bool} {v : Value} (hO : Objs O β X w) (hl : Looks O look) (hM : ∀ b, M' b → Mset X β b) (hx : AR O β X w x v) (h : AV.view look kn who x = some (x', lent))
    (hlent : lent = true → ∀ b, Tset β b → ¬ M' b) : RAV w M' β (fun o => O o ≠ .none) x' v := by
  have hmono : ∀ {x v}, AR O β X w x v → RAV w M' β (fun o => O o ≠ .none) x v := fun h => h.mono (T := fun _ => False) (Evo.refl _ _) (fun _ h => h.elim) (fun b hb => .inl (hM b hb)) (fun o ho => ⟨ho, .inl rfl⟩)
  have hrow : ∀ {y : AV} {es : List D} {u : Value}, AR O β X w y u → rowOf y look = some es → lent = true → RAV w M' β (fun o => O o ≠ .none) (.d (.sl es)) u := fun hy hr hlt => by
    obtain ⟨a, c, sz2, rfl, hE, hnc, hbk⟩ := rowOf_ok hO hl hy hr
    refine .d _ _ (row_data hE hnc hM fun ad had hne hm => ?_)
    rcases hbk ad had hne with h1 | h1
    · exact h1 (hM _ hm)
    · exact hlent hlt _ h1 hm
  clear hlent
  revert h
  have hmain : ∀ (x : AV) (v : Value), AR O β X w x v → ∀ (x' : AV) (l2 : Bool), AV.view look kn who x = some (x', l2) → (l2 = true → lent = true) → RAV w M' β (fun o => O o ≠ .none) x' v := by
    intro x v hx
    induction hx with
    | d d v hd => intro x' l2 h hl2; simp only [AV.view] at h; cases h; exact hmono (.d d v hd)
    | raw v =>
      intro x' l2 h hl2
      unfold AV.view at h
      split at h
      all_goals first | (rename_i heq; cases heq; done) | skip
      · next heq => cases heq; cases h; cases kn; exact .d _ _ (.nil _ _); exact hmono (.raw _)
      · next heq => cases heq; cases h; exact hmono (.raw _)
      · cases h
    | ptr o off v ho hone hh => intro x' l2 h hl2; simp only [AV.view] at h; split at h <;> cases h; exact hmono (.ptr o off v ho hone hh)
    | rptr o sz i off v ho hone hh => intro x' l2 h hl2; simp only [AV.view] at h; split at h <;> cases h; exact hmono (.rptr o sz i off v ho hone hh)
    | eptr e off p f hb hnM ho hc hr => intro x' l2 h hl2; simp [AV.view] at h
    | own o sz v ho hone hh =>
      intro x' l2 h hl2
      simp only [AV.view] at h
      split at h
      · cases h; exact hmono (.own o sz v ho hone hh)
      · split at h
        · next szr es hlk =>
          cases h
          exact hrow (.own o sz _ ho hone hh) (by simp only [rowOf, hlk]) (hl2 rfl)
        · cases h
    | sub o sz lo n v ho hone hh =>
      intro x' l2 h hl2
      simp only [AV.view] at h
      split at h
      · cases h; exact hmono (.sub o sz lo n v ho hone hh)
      · split at h
        · next szr es hlk =>
          cases h
          exact hrow (.sub o sz lo n _ ho hone hh) (by simp only [rowOf, hlk]) (hl2 rfl)
        · cases h
    | agg cs vs hl' hr ih =>
      intro x' l2 h hl2
      simp only [AV.view] at h
      split at h
      · next l b hv =>
        cases h
        obtain ⟨h1, h2⟩ := viewL_get hv
        refine mkAgg_ok (by rw [h1]; exact hl') fun j y hj => ?_
        have hjl : j < cs.length := by rw [← h1]; exact (List.getElem?_eq_some_iff.1 hj).1
        obtain ⟨y', b', h3, h4, h5⟩ := h2 j _ (List.getElem?_eq_getElem hjl)
        rw [h3] at hj
        cases hj
        exact ih j _ (List.getElem?_eq_getElem hjl) _ _ h4 fun hb' => hl2 (by cases l2 with | true => rfl | false => rw [h5 rfl] at hb'; cases hb')
      · cases h
    | tup cs vs hl' hr ih => intro x' l2 h hl2; simp [AV.view] at h
    | fn f cs vs hl' hr ih =>
      intro x' l2 h hl2
      simp only [AV.view] at h
      split at h
      · next l b hv =>
        cases h
        obtain ⟨h1, h2⟩ := viewL_get hv
        refine .fn f _ vs (by rw [h1]; exact hl') fun j y hj => ?_
        have hjl : j < cs.length := by rw [← h1]; exact (List.getElem?_eq_some_iff.1 hj).1
        obtain ⟨y', b', h3, h4, h5⟩ := h2 j _ (List.getElem?_eq_getElem hjl)
        rw [h3] at hj
        cases hj
        exact ih j _ (List.getElem?_eq_getElem hjl) _ _ h4 fun hb' => hl2 (by cases l2 with | true => rfl | false => rw [h5 rfl] at hb'; cases hb')
      · cases h
    | meth f cs vs hl' hr ih =>
      intro x' l2 h hl2
      simp only [AV.view] at h
      split at h
      · next l b hv =>
        cases h
        obtain ⟨h1, h2⟩ := viewL_get hv
        refine .meth f _ vs (by rw [h1]; exact hl') fun j y hj => ?_
        have hjl : j < cs.length := by rw [← h1]; exact (List.getElem?_eq_some_iff.1 hj).1
        obtain ⟨y', b', h3, h4, h5⟩ := h2 j _ (List.getElem?_eq_getElem hjl)
        rw [h3] at hj
        cases hj
        exact ih j _ (List.getElem?_eq_getElem hjl) _ _ h4 fun hb' => hl2 (by cases l2 with | true => rfl | false => rw [h5 rfl] at hb'; cases hb')
      · cases h
    | dead v => intro x' l2 h hl2; simp [AV.view] at h
  exact fun h => hmain x v hx x' lent h id
end
end Sx
end Go.Proofs.Ytfllhedkgeljaaa
