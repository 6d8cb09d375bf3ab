/-
Plain lemmas on lists, for the loops' laws. No condition.
-/
import Derived.Test.YtfllhedkgeljaaaSxt
set_option linter.unusedSimpArgs false
set_option linter.unusedVariables false
namespace Go.Proofs.Ytfllhedkgeljaaa
namespace Sx
open Go.RowKit

theorem foldl_snoc {α β : Type} (f : α → β → α) (s : α) (l : List β) (j : Nat) (x : β) (h : l[j]? = some x) : (l.take (j + 1)).foldl f s = f ((l.take j).foldl f s) x := by
  rw [List.take_add_one, h, List.foldl_append]; rfl
theorem take_map_snoc {α β : Type} (f : α → β) {l : List α} {j : Nat} {x : α} (h : l[j]? = some x) : (l.take (j + 1)).map f = (l.take j).map f ++ [f x] := by
  rw [List.take_add_one, h, List.map_append]; rfl
theorem take_snoc {α : Type} {l : List α} {j : Nat} {x : α} (h : l[j]? = some x) : l.take (j + 1) = l.take j ++ [x] := by
  rw [List.take_add_one, h]; rfl
/-- All below n, or the first that fails. -/
theorem first_of (P : Nat → Prop) : ∀ n, (∀ j, j < n → P j) ∨ ∃ m, m < n ∧ ¬P m ∧ ∀ j, j < m → P j
  | 0 => .inl (by omega)
  | n + 1 => by
    rcases first_of P n with h | ⟨m, h1, h2, h3⟩
    · by_cases g : P n
      · exact .inl fun j hj => by
          by_cases e : j = n
          · subst e; exact g
          · exact h j (by omega)
      · exact .inr ⟨n, by omega, g, h⟩
    · exact .inr ⟨m, by omega, h2, h3⟩
/-- All of a list are so, or the first that is not. -/
theorem all_or {α : Type} (P : α → Prop) (l : List α) : (∀ x ∈ l, P x) ∨ ∃ (m : Nat) (x : α), l[m]? = some x ∧ ¬P x ∧ ∀ (j : Nat) (y : α), j < m → l[j]? = some y → P y := by
  induction l with
  | nil => exact .inl (by simp)
  | cons a r ih =>
    by_cases ha : P a
    · rcases ih with h | ⟨m, x, h1, h2, h3⟩
      · exact .inl fun x hx => by
          rcases List.mem_cons.1 hx with rfl | hx
          · exact ha
          · exact h x hx
      · refine .inr ⟨m + 1, x, by simpa using h1, h2, fun j y hj hy => ?_⟩
        cases j with
        | zero => simp at hy; exact hy ▸ ha
        | succ j => exact h3 j y (by omega) (by simpa using hy)
    · exact .inr ⟨0, a, rfl, ha, fun j y hj => by omega⟩
/-- Two rows of one length are the same, or there is a first place where they part. -/
theorem diff_or {α : Type} [DecidableEq α] (a b : List α) (h : a.length = b.length) : a = b ∨ ∃ (m : Nat) (x y : α), a[m]? = some x ∧ b[m]? = some y ∧ x ≠ y ∧ ∀ (j : Nat) (z : α), j < m → a[j]? = some z → b[j]? = some z := by
  induction a generalizing b with
  | nil => cases b with
    | nil => exact .inl rfl
    | cons y r => simp at h
  | cons x r ih =>
    cases b with
    | nil => simp at h
    | cons y s =>
      by_cases hxy : x = y
      · subst hxy
        rcases ih s (by simpa using h) with e | ⟨m, u, v, h1, h2, h3, h4⟩
        · exact .inl (by rw [e])
        · refine .inr ⟨m + 1, u, v, by simpa using h1, by simpa using h2, h3, fun j z hj hz => ?_⟩
          cases j with
          | zero => simpa using hz
          | succ j => simpa using h4 j z (by omega) (by simpa using hz)
      · exact .inr ⟨0, x, y, rfl, rfl, hxy, fun j z hj => by omega⟩
theorem dint' {k : IntKind} {x y : Int} (h : x = y) : D.int k x = D.int k y := by rw [h]
theorem dbool' {x y : Bool} (h : x = y) : D.bool x = D.bool y := by rw [h]
theorem inc_i64 {j : Nat} (h : j < 4611686018427387904) : IntKind.i64.wrap ((j : Int) + 1) = ((j + 1 : Nat) : Int) := by rw [IntKind.wrap_i64]; omega
theorem get_lt {α : Type} {l : List α} {j : Nat} {x : α} (h : l[j]? = some x) : j < l.length := (List.getElem?_eq_some_iff.1 h).1
theorem get_mem {α : Type} {l : List α} {j : Nat} {x : α} (h : l[j]? = some x) : x ∈ l := List.mem_of_getElem? h
theorem get_of {α : Type} {l : List α} {j : Nat} (h : j < l.length) : l[j]? = some l[j] := List.getElem?_eq_getElem h
/-- An own row that is empty may be nil, or not. -/
theorem fnOK_nilO {P : Program} {f : FuncId} {rest : List AV} {ins : List Ob} {rv : AV} {outs : List Ob} {sz : Nat} (h0 : ins[0]? = some (.row sz [])) (h1 : ∀ a c, FnOK P f (.raw (.slice a 0 c) :: rest) ins rv outs) : FnOK P f (.own 0 sz :: rest) ins rv outs :=
  ⟨(h1 none 0).1, fun w X β vs hO hvs => by
    have h := hvs.2 0 _ rfl
    have hO0 : Oof ins 0 = .row sz [] := by unfold Oof; rw [h0]
    obtain ⟨a, c, e⟩ : ∃ a c, vs.getD 0 undef = .slice a 0 c := by
      generalize vs.getD 0 undef = v at h
      have hr := hO.rel 0
      rw [hO0] at hr
      have hb : ∃ g, β 0 = .row sz 0 g := by
        generalize hβ : β 0 = b at hr
        cases hr with
        | rowN sz => exact ⟨_, rfl⟩
        | row sz es b cur t lo hi => exact ⟨_, rfl⟩
      obtain ⟨g, hβ⟩ := hb
      cases h with
      | own o sz v ho hone hh =>
        obtain ⟨-, a, c, rfl, -⟩ := hh _ _ _ hβ
        exact ⟨a, c, rfl⟩
    refine (h1 a c).2 w X β vs hO ⟨by simpa using hvs.1, fun j x hj => ?_⟩
    cases j with
    | zero => cases hj; rw [e]; exact .raw _
    | succ j => exact hvs.2 (j + 1) x hj⟩
end Sx
end Go.Proofs.Ytfllhedkgeljaaa
