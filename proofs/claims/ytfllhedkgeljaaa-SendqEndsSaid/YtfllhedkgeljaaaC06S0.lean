/-
laws 06, plain: sets of numbers. No program.
-/
import Derived.Test.YtfllhedkgeljaaaSxu
namespace Go.Proofs.Ytfllhedkgeljaaa.C06
open Sx Go.RowKit

abbrev Iv := Int × Int
/-! ### Short names for the parting of a proposition -/
section
variable {p a b : Prop} {x y : Int} {c : Bool}
theorem zA [Decidable p] (h : p → a) (g : ¬p → b) : condP (decide p) a b := condP_dec h g
theorem zB (h : x = y → a) (g : x ≠ y → b) : condP (x == y) a b := condP_eq h g
theorem zC (h : x ≠ y → a) (g : x = y → b) : condP (x != y) a b := condP_ne h g
theorem zD [Decidable p] (h : p → b) (g : ¬p → a) : condP (!decide p) a b := condP_not (condP_dec h g)
theorem zE (h : x = y → b) (g : x ≠ y → a) : condP (!(x == y)) a b := condP_not (condP_eq h g)
theorem zF (h : c = true → b) (g : c = false → a) : condP (!c) a b := condP_not (condP_intro h g)
theorem zG (h : c = true → a) (g : c = false → b) : condP c a b := condP_intro h g
end
def ivD (x : Iv) : D := .agg [.int .i64 x.1, .int .i64 x.2]
theorem ivD_ne {x y : Iv} (h : x ≠ y) : (x.1 == y.1 && (x.2 == y.2 && true)) = false := by
  cases hq : (x.1 == y.1 && (x.2 == y.2 && true))
  · rfl
  · simp at hq
    exact absurd (Prod.ext hq.1 hq.2) h
def endB (n : Int) : Bool := decide (n ≥ 0) && decide (n ≤ 4611686018427387903)
def mayB (x : Iv) : Bool := endB x.1 && endB x.2
def noneB (x : Iv) : Bool := decide (x.2 ≤ x.1)
/-- Whether one is not behind the one before. -/
def ordB : List Iv → Bool
  | x :: y :: r => decide (y.1 ≤ x.2) || ordB (y :: r)
  | _ => false
def iChk (s : List Iv) : Int := if s.any (fun x => !mayB x) = true then 8 else if s.any noneB = true then 4 else if ordB s = true then 10 else 0
theorem mayB_iff {x : Iv} : mayB x = true ↔ (0 ≤ x.1 ∧ x.1 ≤ 4611686018427387903) ∧ 0 ≤ x.2 ∧ x.2 ≤ 4611686018427387903 := by
  unfold mayB endB
  simp only [Bool.and_eq_true, decide_eq_true_eq]
/-- In order, from `e` on. -/
def Srt : Int → List Iv → Prop
  | _, [] => True
  | e, x :: l => (e < x.1 ∧ x.1 < x.2) ∧ Srt x.2 l
structure Ok (s : List Iv) : Prop where
  srt : Srt (-1) s
  up : ∀ x ∈ s, x.2 ≤ 4611686018427387903
theorem srt_up {e e' : Int} (h : e' ≤ e) : ∀ {l : List Iv}, Srt e l → Srt e' l
  | [], _ => trivial
  | x :: l, g => ⟨⟨by have := g.1.1; omega, g.1.2⟩, g.2⟩
theorem srt_mem : ∀ {l : List Iv} {e : Int}, Srt e l → ∀ x ∈ l, e < x.1 ∧ x.1 < x.2
  | [], e, h, x, hx => by cases hx
  | y :: l, e, h, x, hx => by
    rcases List.mem_cons.1 hx with rfl | hx
    · exact h.1
    · have := srt_mem h.2 x hx
      have := h.1
      omega
theorem ordB_iff : ∀ {l : List Iv}, (∀ x ∈ l, x.1 < x.2) → (ordB l = false ↔ ∀ e, (∀ x, l.head? = some x → e < x.1) → Srt e l)
  | [], _ => by simp [ordB, Srt]
  | [x], h => by
    have := h x (by simp)
    simp only [ordB, Srt, true_iff]
    exact fun e he => ⟨⟨he x rfl, this⟩, trivial⟩
  | x :: y :: r, h => by
    have hx := h x (by simp)
    have ih := ordB_iff (l := y :: r) (fun z hz => h z (List.mem_cons_of_mem _ hz))
    show (decide (y.1 ≤ x.2) || ordB (y :: r)) = false ↔ _
    rw [Bool.or_eq_false_iff, decide_eq_false_iff_not, ih]
    constructor
    · rintro ⟨h1, h2⟩ e he
      exact ⟨⟨he x rfl, hx⟩, h2 x.2 fun z hz => by simp at hz; subst hz; omega⟩
    · intro h1
      have h2 := h1 (x.1 - 1) fun z hz => by simp at hz; subst hz; omega
      have h3 : x.2 < y.1 := h2.2.1.1
      exact ⟨by omega, fun e he => srt_up (by have := he y rfl; omega) (show Srt (y.1 - 1) (y :: r) from ⟨⟨by omega, h2.2.1.2⟩, h2.2.2⟩)⟩
theorem iChk_iff {s : List Iv} : iChk s = 0 ↔ Ok s := by
  unfold iChk
  constructor
  · intro h
    by_cases h1 : s.any (fun x => !mayB x) = true
    · rw [if_pos h1] at h; cases h
    · rw [if_neg h1] at h
      by_cases h2 : s.any noneB = true
      · rw [if_pos h2] at h; cases h
      · rw [if_neg h2] at h
        by_cases h3 : ordB s = true
        · rw [if_pos h3] at h; cases h
        · have hm : ∀ x ∈ s, mayB x = true := fun x hx => by
            cases q : mayB x
            · exact absurd (List.any_eq_true.2 ⟨x, hx, by rw [q]; rfl⟩) h1
            · rfl
          have hn : ∀ x ∈ s, x.1 < x.2 := fun x hx => by
            by_cases q : x.2 ≤ x.1
            · exact absurd (List.any_eq_true.2 ⟨x, hx, decide_eq_true q⟩) h2
            · omega
          refine ⟨(ordB_iff hn).1 (Bool.eq_false_iff.2 h3) _ fun x hx => ?_, fun x hx => (mayB_iff.1 (hm x hx)).2.2⟩
          have := (mayB_iff.1 (hm x (List.mem_of_mem_head? hx))).1.1
          omega
  · intro h
    have hm := srt_mem h.srt
    have h1 : s.any (fun x => !mayB x) = false := by
      rw [List.any_eq_false]
      intro x hx
      have a := hm x hx
      have b := h.up x hx
      rw [mayB_iff.2 ⟨⟨by omega, by omega⟩, by omega, b⟩]
      simp
    have h2 : s.any noneB = false := by
      rw [List.any_eq_false]
      intro x hx
      have a := hm x hx
      unfold noneB
      simp only [decide_eq_true_eq]
      omega
    have h3 : ordB s = false := by
      cases s with
      | nil => rfl
      | cons x r =>
        refine (ordB_iff (fun y hy => (hm y hy).2)).2 fun e he => ?_
        exact ⟨⟨he x rfl, h.srt.1.2⟩, h.srt.2⟩
    rw [h1, h2, h3]
    rfl
/-- Whether a number is in a set. -/
def has (s : List Iv) (n : Int) : Bool := s.any (fun x => decide (x.1 ≤ n ∧ n < x.2))
theorem has_cons (x : Iv) (l : List Iv) (n : Int) : has (x :: l) n = (decide (x.1 ≤ n ∧ n < x.2) || has l n) := rfl
theorem has_append (l m : List Iv) (n : Int) : has (l ++ m) n = (has l n || has m n) := by unfold has; rw [List.any_append]
theorem has_iff {s : List Iv} {n : Int} : has s n = true ↔ ∃ x ∈ s, x.1 ≤ n ∧ n < x.2 := by
  unfold has
  rw [List.any_eq_true]
  constructor
  · rintro ⟨x, h1, h2⟩; exact ⟨x, h1, of_decide_eq_true h2⟩
  · rintro ⟨x, h1, h2⟩; exact ⟨x, h1, decide_eq_true h2⟩
theorem srt_low {l : List Iv} {e : Int} (h : Srt e l) {n : Int} (hn : n ≤ e) : has l n = false := by
  cases q : has l n
  · rfl
  · obtain ⟨x, hx, h1⟩ := has_iff.1 q
    have := srt_mem h x hx
    omega
/-- Sets that have the same numbers are one. -/
theorem srt_inj : ∀ {l m : List Iv} {e : Int}, Srt e l → Srt e m → (∀ n, has l n = has m n) → l = m
  | [], [], e, _, _, _ => rfl
  | [], y :: m, e, _, hm, h => by
    have := h y.1
    have h2 : has (y :: m) y.1 = true := has_iff.2 ⟨y, by simp, by have := hm.1; omega⟩
    rw [h2] at this; cases this
  | y :: m, [], e, hm, _, h => by
    have := h y.1
    have h2 : has (y :: m) y.1 = true := has_iff.2 ⟨y, by simp, by have := hm.1; omega⟩
    rw [h2] at this; cases this
  | x :: l, y :: m, e, hl, hm, h => by
    have hx := hl.1
    have hy := hm.1
    have e1 : x.1 = y.1 := by
      rcases Int.lt_trichotomy x.1 y.1 with g | g | g
      · have h1 := h x.1
        have h2 : has (x :: l) x.1 = true := has_iff.2 ⟨x, by simp, by omega⟩
        have h3 : has (y :: m) x.1 = false := srt_low (e := y.1 - 1) (l := y :: m) (And.intro ⟨by omega, hy.2⟩ hm.2) (by omega)
        rw [h2, h3] at h1; cases h1
      · exact g
      · have h1 := h y.1
        have h2 : has (y :: m) y.1 = true := has_iff.2 ⟨y, by simp, by omega⟩
        have h3 : has (x :: l) y.1 = false := srt_low (e := x.1 - 1) (l := x :: l) (And.intro ⟨by omega, hx.2⟩ hl.2) (by omega)
        rw [h2, h3] at h1; cases h1
    have e2 : x.2 = y.2 := by
      rcases Int.lt_trichotomy x.2 y.2 with g | g | g
      · have h1 := h x.2
        rw [has_cons, has_cons, srt_low hl.2 (Int.le_refl _), decide_eq_false (by omega), decide_eq_true (by omega)] at h1
        simp at h1
      · exact g
      · have h1 := h y.2
        rw [has_cons, has_cons, srt_low hm.2 (Int.le_refl _), decide_eq_true (by omega), decide_eq_false (by omega)] at h1
        simp at h1
    have exy : x = y := Prod.ext e1 e2
    subst exy
    congr 1
    refine srt_inj hl.2 hm.2 fun n => ?_
    by_cases hn : n ≤ x.2
    · rw [srt_low hl.2 hn, srt_low hm.2 hn]
    · have h1 := h n
      rw [has_cons, has_cons, decide_eq_false (by omega), Bool.false_or, Bool.false_or] at h1
      exact h1
theorem ok_inj {s t : List Iv} (hs : Ok s) (ht : Ok t) (h : ∀ n, has s n = has t n) : s = t := srt_inj hs.srt ht.srt h
end Go.Proofs.Ytfllhedkgeljaaa.C06
