/-
laws 12, plain: the document's way to take bytes comes to the same. No program.
-/
import Derived.Test.YtfacpafkldmkcaaC12S15
set_option linter.unusedSimpArgs false
set_option linter.unusedVariables false
namespace Go.Proofs.Ytfacpafkldmkcaa.C12
open Sx Go.RowKit

def Srw : Int → List Pt → Prop
  | _, [] => True
  | e, x :: l => e ≤ x.a ∧ Srw (pEnd x) l
theorem srw_of : ∀ {l : List Pt} {e : Int}, Srt e l → Srw e l
  | [], _, _ => trivial
  | x :: l, e, h => ⟨by have := h.1; omega, srw_of h.2⟩
theorem srw_up {e e' : Int} (h : e' ≤ e) : ∀ {l : List Pt}, Srw e l → Srw e' l
  | [], _ => trivial
  | x :: l, g => ⟨by have := g.1; omega, g.2⟩
def lastE (e : Int) (m : List Pt) : Int := match m.getLast? with | some y => pEnd y | none => e
theorem lastE_snoc (e : Int) (m : List Pt) (y : Pt) : lastE e (m ++ [y]) = pEnd y := by unfold lastE; rw [List.getLast?_append]; rfl
theorem srt_snoc : ∀ {m : List Pt} {e : Int} {z : Pt}, Srt e (m ++ [z]) ↔ Srt e m ∧ lastE e m < z.a
  | [], e, z => by simp [Srt, lastE]
  | x :: m, e, z => by
    rw [List.cons_append]
    unfold Srt
    rw [srt_snoc]
    have : lastE e (x :: m) = lastE (pEnd x) m := by
      rcases List.eq_nil_or_concat m with rfl | ⟨m', y, rfl⟩
      · rfl
      · rw [List.concat_eq_append, ← List.cons_append, lastE_snoc, lastE_snoc]
    rw [this]
    constructor
    · rintro ⟨h1, h2, h3⟩; exact ⟨⟨h1, h2⟩, h3⟩
    · rintro ⟨⟨h1, h2⟩, h3⟩; exact ⟨h1, h2, h3⟩
theorem stM_ok {e : Int} {m : List Pt} {x : Pt} (hs : Srt e m) (hl : lastE e m ≤ x.a) (he : e < x.a) (hd : ∀ y ∈ m, y.d ≠ []) (hx : x.d ≠ []) :
    Srt e (stM m x) ∧ lastE e (stM m x) = pEnd x ∧ (∀ y ∈ stM m x, y.d ≠ []) ∧ (∀ k, dP (stM m x) k = (dP m k).or (bA x k)) ∧ sumD (stM m x) = sumD m + x.d.length := by
  rcases List.eq_nil_or_concat m with rfl | ⟨m, y, rfl⟩
  · rw [stM_nil]
    refine ⟨⟨he, trivial⟩, rfl, fun y hy => ?_, fun k => by simp [dP], by rw [sumD_cons]; simp [sumD]⟩
    simp at hy; subst hy; exact hx
  · rw [List.concat_eq_append] at *
    rw [lastE_snoc] at hl
    obtain ⟨h1, h2⟩ := srt_snoc.1 hs
    by_cases h : pEnd y = x.a
    · rw [stM_y h]
      refine ⟨srt_snoc.2 ⟨h1, h2⟩, ?_, fun z hz => ?_, fun k => ?_, ?_⟩
      · rw [lastE_snoc]
        unfold pEnd at *
        simp only [List.length_append]
        omega
      · rw [List.mem_append, List.mem_singleton] at hz
        rcases hz with hz | rfl
        · exact hd z (by simp [hz])
        · simp [hx]
      · rw [dP_append, dP_append]
        simp only [dP, Option.or_none]
        rw [bA_glue, show y.a + (y.d.length : Int) = x.a from h, Option.or_assoc]
      · rw [sumD_append, sumD_append, sumD_cons, sumD_cons]
        simp only [List.length_append, show sumD [] = 0 from rfl]
        omega
    · rw [stM_n h]
      refine ⟨srt_snoc.2 ⟨hs, ?_⟩, lastE_snoc _ _ _, fun z hz => ?_, fun k => ?_, ?_⟩
      · rw [lastE_snoc]; omega
      · rw [List.mem_append, List.mem_singleton] at hz
        rcases hz with hz | rfl
        · exact hd z hz
        · exact hx
      · rw [dP_append _ [x]]
        simp only [dP, Option.or_none]
      · rw [sumD_append _ [x], sumD_cons]
        simp only [show sumD [] = 0 from rfl]
        omega
theorem mrg_ok : ∀ (o : List Pt) (e : Int) (m : List Pt), Srt e m → Srw (lastE e m) o → (∀ y ∈ o, e < y.a ∧ y.d ≠ []) → (∀ y ∈ m, y.d ≠ []) →
    Srt e (o.foldl stM m) ∧ (∀ y ∈ o.foldl stM m, y.d ≠ []) ∧ (∀ k, dP (o.foldl stM m) k = (dP m k).or (dP o k)) ∧ sumD (o.foldl stM m) = sumD m + sumD o
  | [], e, m, hs, hw, ho, hm => ⟨hs, hm, fun k => by simp [dP], by simp [sumD]⟩
  | x :: o, e, m, hs, hw, ho, hm => by
    have hx := ho x (List.mem_cons_self ..)
    obtain ⟨k1, k2, k3, k4, k5⟩ := stM_ok hs hw.1 hx.1 hm hx.2
    obtain ⟨i1, i2, i3, i4⟩ := mrg_ok o e (stM m x) k1 (by rw [k2]; exact hw.2) (fun y hy => ho y (List.mem_cons_of_mem _ hy)) k3
    refine ⟨i1, i2, fun k => ?_, ?_⟩
    · show dP (o.foldl stM (stM m x)) k = _
      rw [i3, k4, dP, Option.or_assoc]
    · show sumD (o.foldl stM (stM m x)) = _
      rw [i4, k5, sumD_cons]; omega
theorem insO_cons_y {y : Pt} (l : List Pt) {k : Int} {c : List UInt8} (h : y.a < k) : insO (y :: l) k c = y :: insO l k c := by
  unfold insO iAt
  rw [List.takeWhile_cons_of_pos (by simpa using h)]
  rfl
theorem insO_cons_n {y : Pt} (l : List Pt) {k : Int} {c : List UInt8} (h : ¬y.a < k) : insO (y :: l) k c = ⟨k, c⟩ :: y :: l := by
  unfold insO iAt
  rw [List.takeWhile_cons_of_neg (by simpa using h)]
  rfl
theorem insO_ok (c : UInt8) : ∀ (l : List Pt) (e k : Int), Srt e l → e ≤ k → (∀ y ∈ l, y.d ≠ [] ∧ ¬(y.a ≤ k ∧ k < pEnd y)) →
    Srw e (insO l k [c]) ∧ ∀ j, dP (insO l k [c]) j = (dP l j).or (bA ⟨k, [c]⟩ j)
  | [], e, k, hs, he, hy => ⟨⟨he, trivial⟩, fun j => by show (bA _ j).or (dP [] j) = _; simp [dP]⟩
  | y :: l, e, k, hs, he, hy => by
    have h1 := hy y (List.mem_cons_self ..)
    have h2 := pEnd_gt h1.1
    by_cases h : y.a < k
    · rw [insO_cons_y l h]
      obtain ⟨i1, i2⟩ := insO_ok c l (pEnd y) k hs.2 (by omega) (fun z hz => hy z (List.mem_cons_of_mem _ hz))
      refine ⟨⟨by have := hs.1; omega, i1⟩, fun j => ?_⟩
      rw [dP, i2, dP, Option.or_assoc]
    · rw [insO_cons_n l h]
      refine ⟨⟨he, ?_⟩, fun j => ?_⟩
      · show Srw (k + 1) (y :: l)
        exact ⟨by omega, srw_of hs.2⟩
      · show (bA ⟨k, [c]⟩ j).or (dP (y :: l) j) = _
        refine or_comm_of ?_
        by_cases hj : j ≤ k
        · exact .inr (srt_dP (e := k) (l := y :: l) (And.intro (by omega) hs.2) j hj)
        · exact .inl (bA_none.2 (.inr (by show k + 1 ≤ j; omega)))
def rOneB (s : Rq) (c : List UInt8) : List Pt → Rq
  | [] => ⟨s.b + 1, s.r ++ c, s.p⟩
  | f :: r => if f.a = s.b + 1 then ⟨s.b + 1 + f.d.length, s.r ++ c ++ f.d, r⟩ else ⟨s.b + 1, s.r ++ c, s.p⟩
def rOne (s : Rq) (k : Int) (c : List UInt8) : Rq × Bool :=
  if k < s.b then (s, false) else if k ≥ rLim s then (s, false) else if s.p.any (inB k) = true then (s, false)
  else if k > s.b then (⟨s.b, s.r, ins s.p k c⟩, true) else (rOneB s c s.p, true)
theorem rOneB_y {s : Rq} {c : List UInt8} {f : Pt} {r : List Pt} (h : f.a = s.b + 1) : rOneB s c (f :: r) = ⟨s.b + 1 + f.d.length, s.r ++ c ++ f.d, r⟩ := by
  show (if f.a = s.b + 1 then _ else _) = _
  rw [if_pos h]
theorem rOneB_n {s : Rq} {c : List UInt8} {f : Pt} {r : List Pt} (h : ¬f.a = s.b + 1) : rOneB s c (f :: r) = ⟨s.b + 1, s.r ++ c, s.p⟩ := by
  show (if f.a = s.b + 1 then _ else _) = _
  rw [if_neg h]
theorem bA_one {k : Int} {c : UInt8} {j : Int} (h : j ≠ k) : bA ⟨k, [c]⟩ j = none := bA_none.2 (by show j < k ∨ k + 1 ≤ j; omega)
theorem srt_gt : ∀ {l : List Pt} {e : Int}, Srt e l → ∀ y ∈ l, e < y.a
  | [], e, h, y, hy => by cases hy
  | x :: l, e, h, y, hy => by
    rcases List.mem_cons.1 hy with rfl | hy
    · exact h.1
    · have := srt_gt h.2 y hy
      have := pEnd_ge x
      have := h.1
      omega
theorem rOne_ok {s : Rq} (h : Ok s) (k : Int) (c : UInt8) :
    Ok (rOne s k [c]).1 ∧ rS (rOne s k [c]).1 = rS s ∧ (∀ j, den (rOne s k [c]).1 j = (den s j).or (if rS s ≤ j ∧ j < rLim s then bA ⟨k, [c]⟩ j else none)) ∧ rHeld (rOne s k [c]).1 = rHeld s + (if (rOne s k [c]).2 = true then 1 else 0) := by
  have hb := h.b
  have hS : rS s ≤ s.b := by unfold rS; omega
  have same : (∀ j, den s j = (den s j).or (if rS s ≤ j ∧ j < rLim s then bA ⟨k, [c]⟩ j else none)) → Ok s ∧ rS s = rS s ∧ (∀ j, den s j = (den s j).or (if rS s ≤ j ∧ j < rLim s then bA ⟨k, [c]⟩ j else none)) ∧ rHeld s = rHeld s + (if false = true then 1 else 0) := fun g => ⟨h, rfl, g, rfl⟩
  unfold rOne
  by_cases h1 : k < s.b
  · rw [if_pos h1]
    refine same fun j => ?_
    by_cases hj : rS s ≤ j ∧ j < rLim s
    · rw [if_pos hj]
      by_cases hk : j = k
      · subst hk
        obtain ⟨x, hx⟩ := den_r hj.1 h1
        rw [hx]; rfl
      · rw [bA_one hk, Option.or_none]
    · rw [if_neg hj, Option.or_none]
  · rw [if_neg h1]
    by_cases h2 : k ≥ rLim s
    · rw [if_pos h2]
      refine same fun j => ?_
      by_cases hj : rS s ≤ j ∧ j < rLim s
      · rw [if_pos hj, bA_one (by omega), Option.or_none]
      · rw [if_neg hj, Option.or_none]
    · rw [if_neg h2]
      by_cases h3 : s.p.any (inB k) = true
      · rw [if_pos h3]
        refine same fun j => ?_
        by_cases hj : rS s ≤ j ∧ j < rLim s
        · rw [if_pos hj]
          by_cases hk : j = k
          · subst hk
            obtain ⟨y, hy, hz⟩ := List.any_eq_true.1 h3
            have hz := of_decide_eq_true hz
            obtain ⟨x, hx⟩ := dP_some hy hz.1 hz.2
            rw [den_ge (by omega), hx]; rfl
          · rw [bA_one hk, Option.or_none]
        · rw [if_neg hj, Option.or_none]
      · rw [if_neg h3]
        have hno : ∀ y ∈ s.p, y.d ≠ [] ∧ ¬(y.a ≤ k ∧ k < pEnd y) := fun y hy => ⟨(h.p y hy).1, fun g => h3 (List.any_eq_true.2 ⟨y, hy, decide_eq_true g⟩)⟩
        have cond : ∀ j, (if rS s ≤ j ∧ j < rLim s then bA ⟨k, [c]⟩ j else none) = bA ⟨k, [c]⟩ j := fun j => by
          by_cases hj : rS s ≤ j ∧ j < rLim s
          · rw [if_pos hj]
          · rw [if_neg hj, bA_one (by omega)]
        by_cases h4 : k > s.b
        · rw [if_pos h4]
          obtain ⟨i1, i2⟩ := insO_ok c s.p s.b k h.srt (by omega) hno
          obtain ⟨j1, j2, j3, j4⟩ := mrg_ok (insO s.p k [c]) s.b [] trivial i1 (fun y hy => by
            rcases insO_mem hy with g | rfl
            · exact ⟨srt_gt h.srt y g, (h.p y g).1⟩
            · exact ⟨h4, by simp⟩) (fun y hy => by cases hy)
          have hden : ∀ j, dP (ins s.p k [c]) j = (dP s.p j).or (bA ⟨k, [c]⟩ j) := fun j => by
            have := j3 j
            rw [show dP [] j = none from rfl, Option.none_or, i2] at this
            exact this
          refine ⟨⟨hb, j1, ends_of (x := ⟨k, [c]⟩) j2 hden (fun y hy => (h.p y hy).2) (by show k + 1 ≤ rLim s; omega)⟩, rfl, fun j => ?_, ?_⟩
          · show (bA _ j).or (dP (ins s.p k [c]) j) = _
            rw [hden, ← Option.or_assoc, cond]
            rfl
          · rw [rHeld_def, rHeld_def]
            show s.r.length + sumD (mrg (insO s.p k [c])) = _
            rw [if_pos rfl]
            have : sumD (mrg (insO s.p k [c])) = _ := j4
            rw [this, insO_sum]
            simp [sumD]
            omega
        · rw [if_neg h4]
          have hk : k = s.b := by omega
          have hlim : rLim s = min (rS s + 4096) 1099511627776 := rfl
          have hS0 : rS s = s.b - s.r.length := rfl
          have plain : Ok ⟨s.b + 1, s.r ++ [c], s.p⟩ ∨ (∃ f r, s.p = f :: r ∧ f.a = s.b + 1) := by
            cases hp : s.p with
            | nil =>
              left
              refine ⟨by simp only [List.length_append, List.length_cons, List.length_nil]; omega, trivial, fun y hy => by cases hy⟩
            | cons f r =>
              by_cases hf : f.a = s.b + 1
              · exact .inr ⟨f, r, rfl, hf⟩
              · left
                have hs := h.srt
                rw [hp] at hs
                have hf1 := hs.1
                refine ⟨by simp only [List.length_append, List.length_cons, List.length_nil]; omega, ⟨by show s.b + 1 < f.a; omega, hs.2⟩, fun y hy => ?_⟩
                rw [rLim_of (t := s) (by unfold rS; simp only [List.length_append, List.length_cons, List.length_nil]; omega)]
                exact h.p y (by rw [hp]; exact hy)
          have rest : ∀ (g : Ok ⟨s.b + 1, s.r ++ [c], s.p⟩), Ok ⟨s.b + 1, s.r ++ [c], s.p⟩ ∧ rS ⟨s.b + 1, s.r ++ [c], s.p⟩ = rS s ∧ (∀ j, den ⟨s.b + 1, s.r ++ [c], s.p⟩ j = (den s j).or (if rS s ≤ j ∧ j < rLim s then bA ⟨k, [c]⟩ j else none)) ∧ rHeld ⟨s.b + 1, s.r ++ [c], s.p⟩ = rHeld s + (if true = true then 1 else 0) := fun g => by
            have e0 : rS ⟨s.b + 1, s.r ++ [c], s.p⟩ = rS s := by unfold rS; simp only [List.length_append, List.length_cons, List.length_nil]; omega
            refine ⟨g, e0, fun j => ?_, ?_⟩
            · rw [cond]
              unfold den
              rw [e0, bA_glue, show rS s + (s.r.length : Int) = k by omega, Option.or_assoc, Option.or_assoc]
              congr 1
              refine or_comm_of ?_
              by_cases hj : j = k
              · exact .inr (srt_dP h.srt j (by omega))
              · exact .inl (bA_one hj)
            · rw [rHeld_def, rHeld_def]
              simp only [List.length_append, List.length_cons, List.length_nil, if_true]
              omega
          rcases hp : s.p with _ | ⟨f, r⟩
          · show Ok ⟨s.b + 1, s.r ++ [c], s.p⟩ ∧ _
            rcases plain with g | ⟨f, r, g, -⟩
            · exact rest g
            · rw [g] at hp; cases hp
          · by_cases hf : f.a = s.b + 1
            · rw [rOneB_y hf]
              have hs := h.srt
              rw [hp] at hs
              have hfp := h.p f (by rw [hp]; exact List.mem_cons_self ..)
              have hpf := pEnd_ge f
              have hpe : pEnd f = s.b + 1 + f.d.length := by unfold pEnd; omega
              have e0 : rS ⟨s.b + 1 + f.d.length, s.r ++ [c] ++ f.d, r⟩ = rS s := by unfold rS; simp only [List.length_append, List.length_cons, List.length_nil]; omega
              refine ⟨⟨by simp only [List.length_append, List.length_cons, List.length_nil]; omega, by rw [← hpe]; exact hs.2, fun y hy => ?_⟩, e0, fun j => ?_, ?_⟩
              · rw [rLim_of e0]
                exact h.p y (by rw [hp]; exact List.mem_cons_of_mem _ hy)
              · rw [cond]
                unfold den
                rw [e0, hp, bA_glue, bA_glue, dP]
                simp only [List.length_append, List.length_cons, List.length_nil]
                rw [show rS s + (s.r.length : Int) = k by omega, show rS s + ((s.r.length + (0 + 1) : Nat) : Int) = f.a by omega]
                rw [Option.or_assoc, Option.or_assoc, Option.or_assoc]
                congr 1
                show (bA ⟨k, [c]⟩ j).or ((bA f j).or (dP r j)) = ((bA f j).or (dP r j)).or (bA ⟨k, [c]⟩ j)
                refine or_comm_of ?_
                by_cases hj : j = k
                · right
                  have := srt_dP (l := f :: r) (e := k) (And.intro (by omega) hs.2) j (by omega)
                  exact this
                · exact .inl (bA_one hj)
              · rw [rHeld_def, rHeld_def, hp, sumD_cons]
                simp only [List.length_append, List.length_cons, List.length_nil, if_true]
                omega
            · rw [rOneB_n hf]
              rcases plain with g | ⟨f', r', g, g2⟩
              · exact rest g
              · rw [g] at hp; cases hp; exact absurd g2 hf
def stD (p : Rq × Int × Int) (c : UInt8) : Rq × Int × Int := ((rOne p.1 p.2.2 [c]).1, if (rOne p.1 p.2.2 [c]).2 = true then p.2.1 + 1 else p.2.1, p.2.2 + 1)
def dJ (s : Rq) (k : Int) (d : List UInt8) : Rq × Int × Int := d.foldl stD (s, 0, k)
theorem dJ_snoc (s : Rq) (k : Int) (d : List UInt8) (c : UInt8) : dJ s k (d ++ [c]) = stD (dJ s k d) c := by unfold dJ; rw [List.foldl_append]; rfl
theorem dJ_ok {s : Rq} (h : Ok s) (k : Int) (d : List UInt8) : ∀ n, n ≤ d.length →
    Ok (dJ s k (d.take n)).1 ∧ rS (dJ s k (d.take n)).1 = rS s ∧ (∀ j, den (dJ s k (d.take n)).1 j = (den s j).or (if rS s ≤ j ∧ j < rLim s then bA ⟨k, d.take n⟩ j else none)) ∧ (rHeld (dJ s k (d.take n)).1 : Int) = rHeld s + (dJ s k (d.take n)).2.1 ∧ (dJ s k (d.take n)).2.2 = k + n ∧ 0 ≤ (dJ s k (d.take n)).2.1 ∧ (dJ s k (d.take n)).2.1 ≤ n
  | 0, _ => by
    refine ⟨h, rfl, fun j => ?_, by simp [dJ], by simp [dJ], by simp [dJ], by simp [dJ]⟩
    have : bA ⟨k, d.take 0⟩ j = none := bA_none.2 (by unfold pEnd; simp; omega)
    rw [this]
    simp [dJ]
  | n + 1, hn => by
    obtain ⟨i1, i2, i3, i4, i5, i6, i7⟩ := dJ_ok h k d n (by omega)
    have hg := List.getElem?_eq_getElem (l := d) (i := n) (by omega)
    generalize d[n]'(by omega) = c at hg
    have e : d.take (n + 1) = d.take n ++ [c] := by rw [List.take_add_one, hg]; rfl
    rw [e, dJ_snoc]
    obtain ⟨o1, o2, o3, o4⟩ := rOne_ok i1 (dJ s k (d.take n)).2.2 c
    have hl := rLim_of i2
    have hc : ∀ (q : Bool) (x y z : Int), x = y + z → ((x + ((if q = true then (1 : Nat) else 0 : Nat) : Int)) = y + (if q = true then z + 1 else z)) := fun q x y z h => by cases q <;> simp <;> omega
    have hc1 : ∀ (q : Bool) (z : Int), 0 ≤ z → 0 ≤ (if q = true then z + 1 else z) := fun q z h => by cases q <;> simp <;> omega
    have hc2 : ∀ (q : Bool) (z m : Int), z ≤ m → (if q = true then z + 1 else z) ≤ m + 1 := fun q z m h => by cases q <;> simp <;> omega
    unfold stD
    refine ⟨o1, o2.trans i2, fun j => ?_, ?_, by simp only [i5]; push_cast; omega, hc1 _ _ i6, hc2 _ _ _ i7⟩
    · rw [o3, i3, i2, hl, i5, bA_glue, Option.or_assoc]
      congr 1
      have hlen : ((d.take n).length : Int) = n := by rw [List.length_take]; omega
      rw [hlen]
      by_cases hj : rS s ≤ j ∧ j < rLim s
      · simp only [hj, and_self, if_true]
      · simp only [hj, if_false, Option.or_none]
    · rw [o4, Int.natCast_add]
      exact hc _ _ _ _ i4
theorem put_same {s : Rq} (h : Ok s) (k : Int) (h0 : 0 ≤ k) (h1 : k ≤ 1099511627776) (d : List UInt8) : rPut s k d = ((dJ s k d).1, (dJ s k d).2.1) := by
  obtain ⟨i1, i2, i3, i4⟩ := rPut_ok h k h0 h1 d
  obtain ⟨j1, j2, j3, j4, -⟩ := dJ_ok h k d d.length (Nat.le_refl _)
  rw [List.take_length] at *
  have e : (rPut s k d).1 = (dJ s k d).1 := den_inj i1 j1 (i2.trans j2.symm) fun j => (i3 j).trans (j3 j).symm
  refine Prod.ext e ?_
  rw [i4, e]
  show _ = (dJ s k d).2.1
  omega
end Go.Proofs.Ytfacpafkldmkcaa.C12
