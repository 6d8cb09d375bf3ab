/-
laws 12, plain: what parts hold, byte by byte; the join is their overlay. No program.
-/
import Derived.Test.YtfacpafkldmkcaaC12S11
set_option linter.unusedSimpArgs false
set_option linter.unusedVariables false
namespace Go.Proofs.Ytfacpafkldmkcaa.C12
open Sx Go.RowKit

/-- The byte that a part has at a place. -/
def bA (x : Pt) (k : Int) : Option UInt8 := if x.a ≤ k then x.d[(k - x.a).toNat]? else none
def dP : List Pt → Int → Option UInt8
  | [], _ => none
  | x :: l, k => (bA x k).or (dP l k)
theorem bA_none {x : Pt} {k : Int} : bA x k = none ↔ k < x.a ∨ pEnd x ≤ k := by
  unfold bA pEnd
  split
  · rw [List.getElem?_eq_none_iff]; omega
  · simp; omega
theorem bA_some {x : Pt} {k : Int} (h1 : x.a ≤ k) (h2 : k < pEnd x) : ∃ c, bA x k = some c := by
  cases h : bA x k with
  | none => rw [bA_none] at h; omega
  | some c => exact ⟨c, rfl⟩
theorem bA_in {x : Pt} {k : Int} {c : UInt8} (h : bA x k = some c) : x.a ≤ k ∧ k < pEnd x := by
  have : ¬(k < x.a ∨ pEnd x ≤ k) := fun g => by rw [← bA_none] at g; rw [g] at h; cases h
  omega
theorem dP_append (l m : List Pt) (k : Int) : dP (l ++ m) k = (dP l k).or (dP m k) := by
  induction l with
  | nil => simp [dP]
  | cons x r ih => rw [List.cons_append, dP, dP, ih, Option.or_assoc]
theorem bA_glue {a : Int} {d e : List UInt8} (k : Int) : bA ⟨a, d ++ e⟩ k = (bA ⟨a, d⟩ k).or (bA ⟨a + d.length, e⟩ k) := by
  unfold bA
  by_cases h : a ≤ k
  · simp only [h, if_true]
    by_cases h2 : k < a + d.length
    · rw [List.getElem?_append_left (by omega)]
      have : (d[(k - a).toNat]?).isSome := by rw [List.getElem?_eq_getElem (by omega)]; rfl
      cases hq : d[(k - a).toNat]? with
      | none => rw [hq] at this; cases this
      | some c => rfl
    · rw [List.getElem?_append_right (by omega), if_pos (by omega)]
      have : d[(k - a).toNat]? = none := List.getElem?_eq_none_iff.2 (by omega)
      rw [this, Option.none_or]
      congr 1
      omega
  · have : ¬ a + (d.length : Int) ≤ k := by omega
    simp [h, this]
/-- A stretch of a part. -/
theorem bA_take (a : Int) (d : List UInt8) (n : Nat) (k : Int) : bA ⟨a, d.take n⟩ k = if k < a + n then bA ⟨a, d⟩ k else none := by
  unfold bA
  by_cases h : a ≤ k
  · simp only [h, if_true]
    rw [List.getElem?_take]
    by_cases h2 : k < a + n
    · rw [if_pos (by omega), if_pos h2]
    · rw [if_neg (by omega), if_neg h2]
  · simp [h]
theorem bA_drop (a : Int) (d : List UInt8) (n : Nat) (k : Int) : bA ⟨a + n, d.drop n⟩ k = if a + n ≤ k then bA ⟨a, d⟩ k else none := by
  unfold bA
  by_cases h : a + n ≤ k
  · have h2 : a ≤ k := by omega
    simp only [h, h2, if_true]
    rw [List.getElem?_drop]
    congr 1
    omega
  · simp [h]
theorem or_comm_of {x y : Option UInt8} (h : x = none ∨ y = none) : x.or y = y.or x := by
  rcases h with rfl | rfl <;> simp
theorem mg_bA {x y : Pt} (h1 : y.a ≤ pEnd x) (h2 : x.a ≤ pEnd y) (k : Int) : bA (mg y x) k = (bA y k).or (bA x k) := by
  have cut : ∀ k, pEnd y ≤ k → bA ⟨pEnd y, mgCut y x⟩ k = bA x k := fun k hk => by
    unfold mgCut
    by_cases hm : pEnd y - x.a ≤ x.d.length
    · have e : pEnd y = x.a + ((min (x.d.length : Int) (pEnd y - x.a)).toNat : Nat) := by omega
      have := bA_drop x.a x.d (min (x.d.length : Int) (pEnd y - x.a)).toNat k
      rw [← e, if_pos hk] at this
      exact this
    · have e : (min (x.d.length : Int) (pEnd y - x.a)).toNat = x.d.length := by omega
      rw [e, List.drop_length]
      have : bA x k = none := bA_none.2 (.inr (by unfold pEnd at *; omega))
      rw [this]
      unfold bA
      simp
  have cutn : ∀ k, k < pEnd y → bA ⟨pEnd y, mgCut y x⟩ k = none := fun k hk => bA_none.2 (.inl hk)
  unfold mg
  split
  · next h =>
    rw [bA_glue]
    show (bA y k).or (bA ⟨pEnd y, _⟩ k) = _
    by_cases hk : pEnd y ≤ k
    · rw [cut k hk]
    · rw [cutn k (by omega)]
      by_cases hk2 : y.a ≤ k
      · obtain ⟨c, hc⟩ := bA_some hk2 (by omega)
        rw [hc]; rfl
      · have e : bA x k = none := bA_none.2 (.inl (by omega))
        rw [e]
  · next h =>
    rw [List.append_assoc, bA_glue, bA_take]
    have hl : (x.d.take (y.a - x.a).toNat).length = (y.a - x.a).toNat := by rw [List.length_take]; unfold pEnd at h1; omega
    rw [hl, show x.a + ((y.a - x.a).toNat : Int) = y.a by omega, bA_glue]
    show (if k < y.a then bA x k else none).or ((bA y k).or (bA ⟨pEnd y, _⟩ k)) = _
    by_cases hk : k < y.a
    · have e1 : bA y k = none := bA_none.2 (.inl hk)
      have e2 := cutn k (by unfold pEnd; omega)
      rw [if_pos hk, e1, e2]
      simp
    · rw [if_neg hk, Option.none_or]
      by_cases hk2 : pEnd y ≤ k
      · rw [cut k hk2]
      · obtain ⟨c, hc⟩ := bA_some (x := y) (k := k) (by omega) (by omega)
        rw [hc]; rfl
theorem mg_ne {x y : Pt} (hx : x.d ≠ []) (hy : y.d ≠ []) : (mg y x).d ≠ [] := by
  unfold mg
  split
  · simp [hy]
  · simp [hy]
theorem mg_end {x y : Pt} (h1 : y.a ≤ pEnd x) (h2 : x.a ≤ pEnd y) : pEnd (mg y x) = max (pEnd x) (pEnd y) := by
  unfold mg mgCut
  split
  · show y.a + ((y.d ++ _).length : Nat) = _
    rw [List.length_append, List.length_drop]
    unfold pEnd at *
    omega
  · show x.a + ((_ ++ y.d ++ _).length : Nat) = _
    rw [List.length_append, List.length_append, List.length_drop, List.length_take]
    unfold pEnd at *
    omega
theorem srt_up {e e' : Int} (h : e' ≤ e) : ∀ {l : List Pt}, Srt e l → Srt e' l
  | [], _ => trivial
  | x :: l, g => ⟨by have := g.1; omega, g.2⟩
/-- Ahead of the first part there is nothing. -/
theorem srt_dP {e : Int} : ∀ {l : List Pt}, Srt e l → ∀ k, k ≤ e → dP l k = none
  | [], _, k, hk => rfl
  | x :: l, h, k, hk => by
    have h1 := h.1
    rw [dP, bA_none.2 (.inl (by omega)), Option.none_or]
    refine srt_dP h.2 k ?_
    unfold pEnd
    omega
theorem pEnd_gt {x : Pt} (h : x.d ≠ []) : x.a < pEnd x := by
  unfold pEnd
  have := List.length_pos_iff.2 h
  omega
theorem pEnd_ge (x : Pt) : x.a ≤ pEnd x := by unfold pEnd; omega
theorem jn2_ok : ∀ (m : List Pt) (e : Int) (x : Pt), Srt e m → (∀ y ∈ m, y.d ≠ [] ∧ x.a ≤ pEnd y) → e < x.a → x.d ≠ [] →
    Srt e ((jn2 x m).1 :: (jn2 x m).2) ∧ (∀ y ∈ (jn2 x m).1 :: (jn2 x m).2, y.d ≠ []) ∧ (∀ k, dP ((jn2 x m).1 :: (jn2 x m).2) k = (dP m k).or (bA x k)) ∧ (jn2 x m).2.length ≤ m.length ∧ (jn2 x m).1.d.length + sumD (jn2 x m).2 ≤ x.d.length + sumD m
  | [], e, x, hs, hy, he, hx => by
    refine ⟨⟨he, trivial⟩, fun y h => ?_, fun k => by simp [jn2, dP], by simp [jn2], Nat.le_refl _⟩
    simp [jn2] at h
    rw [h]; exact hx
  | y :: r, e, x, hs, hy, he, hx => by
    obtain ⟨hyd, hye⟩ := hy y (List.mem_cons_self ..)
    have hs1 := hs.1
    unfold jn2
    by_cases h : y.a > pEnd x
    · rw [if_pos h]
      refine ⟨⟨he, h, hs.2⟩, fun z hz => ?_, fun k => ?_, Nat.le_refl _, Nat.le_refl _⟩
      · rcases List.mem_cons.1 hz with rfl | hz
        · exact hx
        · exact (hy z hz).1
      · rw [dP]
        refine or_comm_of ?_
        by_cases hk : k ≤ pEnd x
        · exact .inr (srt_dP (e := pEnd x) (l := y :: r) (And.intro h hs.2) k hk)
        · exact .inl (bA_none.2 (.inr (by show pEnd x ≤ k; omega)))
    · rw [if_neg h]
      have hma := mg_a y x
      obtain ⟨i1, i2, i3, i4, i5⟩ := jn2_ok r e (mg y x) (srt_up (by have := pEnd_ge y; omega) hs.2) (fun z hz => ⟨(hy z (List.mem_cons_of_mem _ hz)).1, by have := (hy z (List.mem_cons_of_mem _ hz)).2; omega⟩) (by omega) (mg_ne hx hyd)
      have hml := mg_len y x
      refine ⟨i1, i2, fun k => ?_, by rw [List.length_cons]; omega, by rw [sumD_cons]; omega⟩
      rw [i3 k, mg_bA (by omega) hye, dP, ← Option.or_assoc]
      congr 1
      refine or_comm_of ?_
      by_cases hk : k ≤ pEnd y
      · exact .inl (srt_dP hs.2 k hk)
      · exact .inr (bA_none.2 (.inr (by omega)))
theorem jn_nil (x : Pt) : jn [] x = [x] := rfl
theorem jn_cons_y {y : Pt} (l : List Pt) {x : Pt} (h : pEnd y < x.a) : jn (y :: l) x = y :: jn l x := by
  unfold jn p1
  rw [List.takeWhile_cons_of_pos (by simpa using h)]
  rfl
theorem jn_cons_n {y : Pt} (l : List Pt) {x : Pt} (h : ¬pEnd y < x.a) : jn (y :: l) x = (jn2 x (y :: l)).1 :: (jn2 x (y :: l)).2 := by
  unfold jn p1
  rw [List.takeWhile_cons_of_neg (by simpa using h)]
  rfl
theorem jn_ok : ∀ (l : List Pt) (e : Int) (x : Pt), Srt e l → (∀ y ∈ l, y.d ≠ []) → e < x.a → x.d ≠ [] →
    Srt e (jn l x) ∧ (∀ y ∈ jn l x, y.d ≠ []) ∧ (∀ k, dP (jn l x) k = (dP l k).or (bA x k)) ∧ (jn l x).length ≤ l.length + 1 ∧ sumD (jn l x) ≤ sumD l + x.d.length
  | [], e, x, hs, hy, he, hx => by
    rw [jn_nil]
    refine ⟨⟨he, trivial⟩, fun y h => ?_, fun k => by simp [dP], by simp, by rw [sumD_cons]; simp [sumD]⟩
    simp at h
    rw [h]; exact hx
  | y :: l, e, x, hs, hy, he, hx => by
    by_cases h : pEnd y < x.a
    · rw [jn_cons_y l h]
      obtain ⟨i1, i2, i3, i4, i5⟩ := jn_ok l (pEnd y) x hs.2 (fun z hz => hy z (List.mem_cons_of_mem _ hz)) h hx
      refine ⟨⟨hs.1, i1⟩, fun z hz => ?_, fun k => by rw [dP, i3 k, dP, Option.or_assoc], by simp only [List.length_cons]; omega, by rw [sumD_cons, sumD_cons]; omega⟩
      rcases List.mem_cons.1 hz with rfl | hz
      · exact hy _ (List.mem_cons_self ..)
      · exact i2 z hz
    · rw [jn_cons_n l h]
      obtain ⟨i1, i2, i3, i4, i5⟩ := jn2_ok (y :: l) e x hs (fun z hz => ⟨hy z hz, srt_ge (a := x.a) hs (fun w hw => by simp at hw; subst hw; omega) z hz⟩) he hx
      exact ⟨i1, i2, i3, by simp only [List.length_cons] at *; omega, by rw [sumD_cons (jn2 _ _).1]; omega⟩
/-! ### A state that may be -/
structure Ok (s : Rq) : Prop where
  b : 0 ≤ s.b ∧ s.b ≤ 1099511627776 ∧ s.r.length ≤ 4096 ∧ (s.r.length : Int) ≤ s.b
  srt : Srt s.b s.p
  p : ∀ y ∈ s.p, y.d ≠ [] ∧ pEnd y ≤ rLim s
theorem rBad_iff {lim : Int} : ∀ {l : List Pt} {e : Int}, rBad lim e l = false ↔ Srt e l ∧ ∀ y ∈ l, y.d ≠ [] ∧ pEnd y ≤ lim
  | [], e => by simp [rBad, Srt]
  | x :: l, e => by
    unfold rBad Srt
    rw [Bool.or_eq_false_iff, rBad_iff]
    have hp : pBad lim e x = false ↔ e < x.a ∧ x.d ≠ [] ∧ pEnd x ≤ lim := by
      unfold pBad pEnd
      simp only [Bool.or_eq_false_iff, decide_eq_false_iff_not]
      constructor
      · rintro ⟨h1, h2, h3, h4⟩; exact ⟨by omega, h2, by omega⟩
      · rintro ⟨h1, h2, h3⟩; exact ⟨by omega, h2, by omega, by omega⟩
    rw [hp]
    constructor
    · rintro ⟨⟨h1, h2, h3⟩, h4, h5⟩
      refine ⟨⟨h1, h4⟩, fun y hy => ?_⟩
      rcases List.mem_cons.1 hy with rfl | hy
      · exact ⟨h2, h3⟩
      · exact h5 y hy
    · rintro ⟨⟨h1, h4⟩, h5⟩
      have := h5 x (List.mem_cons_self ..)
      exact ⟨⟨h1, this.1, this.2⟩, h4, fun y hy => h5 y (List.mem_cons_of_mem _ hy)⟩
theorem ok_iff {s : Rq} : rChk s = 0 ↔ Ok s := by
  constructor
  · intro h
    have hz := chk_zero h
    obtain ⟨h1, h2⟩ := rBad_iff.1 hz.2
    exact ⟨hz.1, h1, h2⟩
  · intro h
    unfold rChk
    have h1 : rOut s = false := by
      unfold rOut
      have := h.b
      exact decide_eq_false (by omega)
    rw [h1, rBad_iff.2 ⟨h.srt, h.p⟩]
    rfl
/-- Where what is ready begins. -/
def rS (s : Rq) : Int := s.b - s.r.length
def den (s : Rq) (k : Int) : Option UInt8 := (bA ⟨rS s, s.r⟩ k).or (dP s.p k)
theorem rLim_of {s t : Rq} (h : rS s = rS t) : rLim s = rLim t := by unfold rLim; unfold rS at h; rw [h]
theorem dP_some {l : List Pt} {y : Pt} {k : Int} (hy : y ∈ l) (h1 : y.a ≤ k) (h2 : k < pEnd y) : ∃ c, dP l k = some c := by
  induction l with
  | nil => cases hy
  | cons x r ih =>
    rw [dP]
    cases hx : bA x k with
    | some c => exact ⟨c, rfl⟩
    | none =>
      rcases List.mem_cons.1 hy with rfl | hy
      · obtain ⟨c, hc⟩ := bA_some h1 h2
        rw [hc] at hx; cases hx
      · obtain ⟨c, hc⟩ := ih hy
        exact ⟨c, by rw [hc]; rfl⟩
theorem dP_in {l : List Pt} {k : Int} {c : UInt8} (h : dP l k = some c) : ∃ y ∈ l, y.a ≤ k ∧ k < pEnd y := by
  induction l with
  | nil => cases h
  | cons x r ih =>
    rw [dP] at h
    cases hx : bA x k with
    | some c => exact ⟨x, List.mem_cons_self .., bA_in hx⟩
    | none =>
      rw [hx, Option.none_or] at h
      obtain ⟨y, hy, hk⟩ := ih h
      exact ⟨y, List.mem_cons_of_mem _ hy, hk⟩
/-- A state is told by where it begins and its bytes. -/
theorem dP_inj : ∀ {l m : List Pt} {e : Int}, Srt e l → Srt e m → (∀ y ∈ l, y.d ≠ []) → (∀ y ∈ m, y.d ≠ []) → (∀ k, dP l k = dP m k) → l = m
  | [], [], e, _, _, _, _, _ => rfl
  | [], y :: m, e, _, _, _, hm, h => by
    have hy := pEnd_gt (hm y (List.mem_cons_self ..))
    obtain ⟨c, hc⟩ := dP_some (l := y :: m) (List.mem_cons_self ..) (Int.le_refl _) hy
    rw [← h] at hc; cases hc
  | y :: m, [], e, _, _, hm, _, h => by
    have hy := pEnd_gt (hm y (List.mem_cons_self ..))
    obtain ⟨c, hc⟩ := dP_some (l := y :: m) (List.mem_cons_self ..) (Int.le_refl _) hy
    rw [h] at hc; cases hc
  | x :: l, y :: m, e, hl, hm, gl, gm, h => by
    have hx := pEnd_gt (gl x (List.mem_cons_self ..))
    have hy := pEnd_gt (gm y (List.mem_cons_self ..))
    have hnl : ∀ k, k ≤ pEnd x → dP l k = none := srt_dP hl.2
    have hnm : ∀ k, k ≤ pEnd y → dP m k = none := srt_dP hm.2
    have ea : x.a = y.a := by
      rcases Int.lt_trichotomy x.a y.a with g | g | g
      · have h1 := h x.a
        rw [dP, dP, bA_none.2 (.inl g), Option.none_or, hnm _ (by omega)] at h1
        obtain ⟨c, hc⟩ := bA_some (Int.le_refl x.a) hx
        rw [hc] at h1; cases h1
      · exact g
      · have h1 := h y.a
        rw [dP, dP, bA_none.2 (.inl g), Option.none_or, hnl _ (by omega)] at h1
        obtain ⟨c, hc⟩ := bA_some (Int.le_refl y.a) hy
        rw [hc] at h1; cases h1
    have ee : pEnd x = pEnd y := by
      rcases Int.lt_trichotomy (pEnd x) (pEnd y) with g | g | g
      · have h1 := h (pEnd x)
        rw [dP, dP, bA_none.2 (.inr (Int.le_refl _)), Option.none_or, hnl _ (Int.le_refl _)] at h1
        obtain ⟨c, hc⟩ := bA_some (x := y) (k := pEnd x) (by omega) g
        rw [hc] at h1; cases h1
      · exact g
      · have h1 := h (pEnd y)
        rw [dP, dP, bA_none.2 (.inr (Int.le_refl (pEnd y))), Option.none_or, hnm _ (Int.le_refl _)] at h1
        obtain ⟨c, hc⟩ := bA_some (x := x) (k := pEnd y) (by omega) g
        rw [hc] at h1; cases h1
    have ed : x.d = y.d := by
      refine List.ext_getElem? fun i => ?_
      have h1 := h (x.a + i)
      by_cases hi : i < x.d.length
      · rw [dP, dP, hnl _ (by unfold pEnd; omega), hnm _ (by rw [← ee]; unfold pEnd; omega), Option.or_none, Option.or_none] at h1
        unfold bA at h1
        rw [if_pos (by omega), if_pos (by omega), show (x.a + (i : Int) - x.a).toNat = i by omega, show (x.a + (i : Int) - y.a).toNat = i by omega] at h1
        exact h1
      · rw [List.getElem?_eq_none_iff.2 (by omega), List.getElem?_eq_none_iff.2 (by unfold pEnd at ee; omega)]
    have exy : x = y := by
      obtain ⟨xa, xd⟩ := x
      obtain ⟨ya, yd⟩ := y
      simp only at ea ed
      rw [ea, ed]
    subst exy
    congr 1
    refine dP_inj hl.2 hm.2 (fun z hz => gl z (List.mem_cons_of_mem _ hz)) (fun z hz => gm z (List.mem_cons_of_mem _ hz)) fun k => ?_
    by_cases hk : k ≤ pEnd x
    · rw [hnl k hk, hnm k hk]
    · have h1 := h k
      rw [dP, dP, bA_none.2 (.inr (by omega)), Option.none_or, Option.none_or] at h1
      exact h1
theorem den_low {s : Rq} (h : Ok s) {k : Int} (hk : k < rS s) : den s k = none := by
  unfold den
  rw [bA_none.2 (.inl hk), Option.none_or]
  refine srt_dP h.srt k ?_
  unfold rS at hk
  omega
theorem den_r {s : Rq} {k : Int} (h1 : rS s ≤ k) (h2 : k < s.b) : ∃ c, den s k = some c := by
  unfold den
  obtain ⟨c, hc⟩ := bA_some (x := ⟨rS s, s.r⟩) (k := k) h1 (by unfold pEnd rS; show k < s.b - (s.r.length : Int) + (s.r.length : Int); omega)
  exact ⟨c, by rw [hc]; rfl⟩
theorem rS_end (s : Rq) : pEnd ⟨rS s, s.r⟩ = s.b := by unfold pEnd rS; show s.b - (s.r.length : Int) + (s.r.length : Int) = s.b; omega
theorem den_ge {s : Rq} {k : Int} (h : s.b ≤ k) : den s k = dP s.p k := by
  unfold den
  rw [bA_none.2 (.inr (by rw [rS_end]; exact h)), Option.none_or]
theorem den_b {s : Rq} (h : Ok s) : den s s.b = none := by
  rw [den_ge (Int.le_refl _)]
  exact srt_dP h.srt _ (Int.le_refl _)
theorem den_lim {s : Rq} (h : Ok s) {k : Int} (hk : rLim s ≤ k) (hb : s.b ≤ k) : den s k = none := by
  rw [den_ge hb]
  cases hq : dP s.p k with
  | none => rfl
  | some c =>
    obtain ⟨y, hy, h1, h2⟩ := dP_in hq
    have := (h.p y hy).2
    omega
theorem den_inj {s t : Rq} (hs : Ok s) (ht : Ok t) (h0 : rS s = rS t) (h : ∀ k, den s k = den t k) : s = t := by
  have eb : s.b = t.b := by
    have h1 := rS_end s
    have h2 := rS_end t
    have hl1 : rS s ≤ s.b := by unfold rS; omega
    have hl2 : rS t ≤ t.b := by unfold rS; omega
    rcases Int.lt_trichotomy s.b t.b with g | g | g
    · obtain ⟨c, hc⟩ := den_r (s := t) (k := s.b) (by omega) g
      rw [← h, den_b hs] at hc; cases hc
    · exact g
    · obtain ⟨c, hc⟩ := den_r (s := s) (k := t.b) (by omega) g
      rw [h, den_b ht] at hc; cases hc
  have el : s.r.length = t.r.length := by unfold rS at h0; omega
  have er : s.r = t.r := by
    refine List.ext_getElem? fun i => ?_
    by_cases hi : i < s.r.length
    · have h1 := h (rS s + i)
      have hz : dP s.p (rS s + i) = none := srt_dP hs.srt _ (by unfold rS; omega)
      have hz2 : dP t.p (rS s + i) = none := srt_dP ht.srt _ (by unfold rS; omega)
      unfold den at h1
      rw [hz, hz2, Option.or_none, Option.or_none] at h1
      unfold bA at h1
      rw [if_pos (by show rS s ≤ _; omega), if_pos (by show rS t ≤ _; omega)] at h1
      rw [show (rS s + (i : Int) - rS s).toNat = i by omega, show (rS s + (i : Int) - rS t).toNat = i by omega] at h1
      exact h1
    · rw [List.getElem?_eq_none_iff.2 (by omega), List.getElem?_eq_none_iff.2 (by omega)]
  have ep : s.p = t.p := by
    refine dP_inj hs.srt (by rw [eb]; exact ht.srt) (fun y hy => (hs.p y hy).1) (fun y hy => (ht.p y hy).1) fun k => ?_
    by_cases hk : s.b ≤ k
    · have h1 := h k
      rw [den_ge hk, den_ge (by omega)] at h1
      exact h1
    · rw [srt_dP hs.srt k (by omega), srt_dP ht.srt k (by omega)]
  obtain ⟨_, _, _⟩ := s
  obtain ⟨_, _, _⟩ := t
  simp only at eb er ep
  rw [eb, er, ep]
end Go.Proofs.Ytfacpafkldmkcaa.C12
