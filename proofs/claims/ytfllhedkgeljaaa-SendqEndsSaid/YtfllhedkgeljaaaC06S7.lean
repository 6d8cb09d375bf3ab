/-
laws 06, plain: what Add and Meet make. No program.
-/
import Derived.Test.YtfllhedkgeljaaaC06S6
namespace Go.Proofs.Ytfllhedkgeljaaa.C06
open Sx Go.RowKit

def inV (x : Iv) (n : Int) : Bool := decide (x.1 ≤ n ∧ n < x.2)
theorem pPut_cons {x z y : Iv} {l : List Iv} : pPut (z :: y :: l) x = z :: pPut (y :: l) x := by
  by_cases h : x.2 ≤ x.1
  · rw [pPut_none h, pPut_none h]
  · rcases List.eq_nil_or_concat (y :: l) with g | ⟨l', w, g⟩
    · cases g
    · rw [List.concat_eq_append] at g
      rw [g, ← List.cons_append]
      by_cases g2 : w.2 ≥ x.1
      · rw [pPut_t h g2, pPut_t h g2]; rfl
      · rw [pPut_n h g2, pPut_n h g2]; rfl
theorem pPut_one {x z : Iv} (h : x.1 < x.2) : pPut [z] x = if z.2 ≥ x.1 then [(z.1, max z.2 x.2)] else [z, x] := by
  by_cases g : z.2 ≥ x.1
  · rw [if_pos g]; exact pPut_t (l := []) (by omega) g
  · rw [if_neg g]; exact pPut_n (l := []) (by omega) g
theorem pPut_ok {x : Iv} (hx : x.1 < x.2) {M : Int} (hM : x.2 ≤ M) : ∀ {m : List Iv} {e : Int}, Srt e m → (∀ z ∈ m, z.2 ≤ M) → (∀ z ∈ m, z.1 ≤ x.1) → e < x.1 →
    Srt e (pPut m x) ∧ (∀ z ∈ pPut m x, z.2 ≤ M) ∧ (∀ n, has (pPut m x) n = (has m n || inV x n)) ∧ (∀ z ∈ pPut m x, z.1 = x.1 ∨ ∃ w ∈ m, z.1 = w.1)
  | [], e, _, _, _, he => by
    rw [pPut_nil (by omega)]
    exact ⟨⟨⟨he, hx⟩, trivial⟩, (fun z hz => by simp at hz; rw [hz]; exact hM), (fun n => by simp [has, inV]), (fun z hz => by simp at hz; exact .inl (by rw [hz]))⟩
  | [z], e, hs, hu, hz, he => by
    have h1 := hs.1
    have h2 := hz z (by simp)
    have h3 := hu z (by simp)
    rw [pPut_one hx]
    by_cases g : z.2 ≥ x.1
    · rw [if_pos g]
      refine ⟨⟨⟨h1.1, by show z.1 < max z.2 x.2; omega⟩, trivial⟩, fun w hw => ?_, fun n => ?_, fun w hw => ?_⟩
      · simp at hw; rw [hw]; show max z.2 x.2 ≤ M; omega
      · rw [has_cons, has_cons]
        show (decide (z.1 ≤ n ∧ n < max z.2 x.2) || has [] n) = _
        simp only [has, List.any_nil, Bool.or_false, inV]
        rw [← Bool.decide_or]
        exact decide_eq_decide.2 (by omega)
      · simp at hw; exact .inr ⟨z, by simp, by rw [hw]⟩
    · rw [if_neg g]
      refine ⟨⟨h1, ⟨by omega, hx⟩, trivial⟩, fun w hw => ?_, fun n => ?_, fun w hw => ?_⟩
      · simp at hw; rcases hw with rfl | rfl
        · exact h3
        · exact hM
      · rw [has_cons, has_cons, has_cons]
        simp [has, inV]
      · simp at hw; rcases hw with rfl | rfl
        · exact .inr ⟨w, by simp, rfl⟩
        · exact .inl rfl
  | z :: y :: l, e, hs, hu, hz, he => by
    have h1 := hs.1
    have h2 := hz z (by simp)
    have hy := hz y (by simp)
    have hy1 := hs.2.1
    obtain ⟨i1, i2, i3, i4⟩ := pPut_ok hx hM hs.2 (fun w hw => hu w (List.mem_cons_of_mem _ hw)) (fun w hw => hz w (List.mem_cons_of_mem _ hw)) (by omega)
    rw [pPut_cons]
    refine ⟨⟨h1, i1⟩, fun w hw => ?_, fun n => ?_, fun w hw => ?_⟩
    · rcases List.mem_cons.1 hw with rfl | hw
      · exact hu _ (by simp)
      · exact i2 w hw
    · rw [has_cons, i3, has_cons z, Bool.or_assoc]
    · rcases List.mem_cons.1 hw with rfl | hw
      · exact .inr ⟨w, by simp, rfl⟩
      · rcases i4 w hw with h | ⟨v, hv, h⟩
        · exact .inl h
        · exact .inr ⟨v, List.mem_cons_of_mem _ hv, h⟩
theorem add_fold {x : Iv} (hx : x.1 < x.2) (h0 : -1 < x.1) {M : Int} (hM : x.2 ≤ M) : ∀ (s : List Iv) {m : List Iv} {q : Bool} {e : Int}, Srt e s → (∀ z ∈ s, z.2 ≤ M) → -1 ≤ e → Srt (-1) m → (∀ z ∈ m, z.2 ≤ M) → (∀ z ∈ m, z.1 ≤ e) → (q = false → ∀ z ∈ m, z.1 ≤ x.1) →
    Srt (-1) (s.foldl (stA x) (m, q)).1 ∧ (∀ z ∈ (s.foldl (stA x) (m, q)).1, z.2 ≤ M) ∧ (∀ n, has (s.foldl (stA x) (m, q)).1 n = (has m n || has s n || (!q && (s.foldl (stA x) (m, q)).2 && inV x n))) ∧ ((s.foldl (stA x) (m, q)).2 = false → ∀ z ∈ (s.foldl (stA x) (m, q)).1, z.1 ≤ x.1)
  | [], m, q, e, _, _, _, h1, h2, _, h4 => ⟨h1, h2, (fun n => by cases q <;> simp [has]), h4⟩
  | y :: s, m, q, e, hs, hu, he, h1, h2, h3, h4 => by
    have hy := hs.1
    have hyM := hu y (by simp)
    rw [List.foldl_cons]
    by_cases g : q = false ∧ x.1 ≤ y.1
    · have es : stA x (m, q) y = (pPut (pPut m x) y, true) := by unfold stA; rw [if_pos g]
      rw [es]
      obtain ⟨a1, a2, a3, a4⟩ := pPut_ok hx hM h1 h2 (h4 g.1) h0
      have ax : ∀ z ∈ pPut m x, z.1 ≤ y.1 := fun z hz => by
        rcases a4 z hz with h | ⟨w, hw, h⟩
        · omega
        · have := h3 w hw; omega
      obtain ⟨b1, b2, b3, b4⟩ := pPut_ok hy.2 hyM a1 a2 ax (by omega)
      obtain ⟨i1, i2, i3, i4⟩ := add_fold hx h0 hM s (m := pPut (pPut m x) y) (q := true) (e := y.2) hs.2 (fun z hz => hu z (List.mem_cons_of_mem _ hz)) (by omega) b1 b2 (fun z hz => by
        rcases b4 z hz with h | ⟨w, hw, h⟩
        · omega
        · have := ax w hw; omega) (fun h => by cases h)
      have i5 : (s.foldl (stA x) (pPut (pPut m x) y, true)).2 = true := by
        clear i1 i2 i3 i4
        generalize pPut (pPut m x) y = m'
        induction s generalizing m' with
        | nil => rfl
        | cons z s ih =>
          rw [List.foldl_cons]
          have : stA x (m', true) z = (pPut m' z, true) := by unfold stA; rw [if_neg (by simp)]
          rw [this]
          exact ih (hs := by
            have := hs.2.2
            have h5 := hs.2.1
            exact ⟨hs.1, srt_up (by omega) this⟩) (hu := fun w hw => hu w (by
            rcases List.mem_cons.1 hw with rfl | hw
            · simp
            · exact List.mem_cons_of_mem _ (List.mem_cons_of_mem _ hw))) _
      refine ⟨i1, i2, fun n => ?_, fun h => by rw [i5] at h; cases h⟩
      rw [i3, b3, a3, i5, g.1, has_cons]
      show ((has m n || inV x n || inV y n) || has s n || _) = (has m n || (inV y n || has s n) || _)
      cases has m n <;> cases inV x n <;> cases inV y n <;> cases has s n <;> rfl
    · have es : stA x (m, q) y = (pPut m y, q) := by unfold stA; rw [if_neg g]
      rw [es]
      obtain ⟨b1, b2, b3, b4⟩ := pPut_ok hy.2 hyM h1 h2 (fun z hz => by have := h3 z hz; omega) (by omega)
      obtain ⟨i1, i2, i3, i4⟩ := add_fold hx h0 hM s (m := pPut m y) (q := q) (e := y.2) hs.2 (fun z hz => hu z (List.mem_cons_of_mem _ hz)) (by omega) b1 b2 (fun z hz => by
        rcases b4 z hz with h | ⟨w, hw, h⟩
        · omega
        · have := h3 w hw; omega) (fun h z hz => by
        rcases b4 z hz with h' | ⟨w, hw, h'⟩
        · by_cases k : x.1 ≤ y.1
          · exact absurd ⟨h, k⟩ g
          · omega
        · have := h4 h w hw; omega)
      refine ⟨i1, i2, fun n => ?_, i4⟩
      rw [i3, b3, has_cons]
      show ((has m n || inV y n) || has s n || _) = (has m n || (inV y n || has s n) || _)
      cases has m n <;> cases inV y n <;> rfl
theorem add_ok {s : List Iv} (h : Ok s) {x : Iv} (hm : mayB x = true) (hn : noneB x = false) : Ok (rAdd s x) ∧ (∀ n, has (rAdd s x) n = (has s n || inV x n)) := by
  have h2 := of_decide_eq_false hn
  have h1 := mayB_iff.1 hm
  have e : rAdd s x = pAdd s x := by
    unfold rAdd nop
    rw [hm, hn, iChk_iff.2 h]
    rfl
  rw [e]
  obtain ⟨i1, i2, i3, i4⟩ := add_fold (x := x) (by omega) (by omega) (M := 4611686018427387903) (by omega) s (m := []) (q := false) (e := -1) h.srt h.up (by omega) trivial (fun z hz => by cases hz) (fun z hz => by cases hz) (fun _ z hz => by cases hz)
  unfold pAdd
  cases hq : (pAddF s x).2
  · rw [if_neg (by simp)]
    obtain ⟨b1, b2, b3, b4⟩ := pPut_ok (x := x) (M := 4611686018427387903) (by omega) (by omega) i1 i2 (i4 hq) (by omega)
    refine ⟨⟨b1, b2⟩, fun n => ?_⟩
    have e3 := i3 n
    show has (pPut (s.foldl (stA x) ([], false)).1 x) n = _
    rw [b3, e3]
    have hq' : (s.foldl (stA x) ([], false)).2 = false := hq
    rw [hq']
    simp [has]
  · rw [if_pos rfl]
    refine ⟨⟨i1, i2⟩, fun n => ?_⟩
    have e3 := i3 n
    have hq' : (s.foldl (stA x) ([], false)).2 = true := hq
    rw [hq'] at e3
    show has (s.foldl (stA x) ([], false)).1 n = _
    rw [e3]
    simp [has]
theorem inV_both (x y : Iv) (n : Int) : inV (both x y) n = (inV x n && inV y n) := by
  unfold inV both
  rw [← Bool.decide_and]
  exact decide_eq_decide.2 (by show (max x.1 y.1 ≤ n ∧ n < min x.2 y.2) ↔ _; omega)
theorem meet_in {x : Iv} (h0 : -1 < x.1) {M : Int} (hM : x.2 ≤ M) : ∀ (b : List Iv) {m : List Iv} {e : Int}, Srt e b → Srt (-1) m → (∀ z ∈ m, z.2 ≤ M) → (∀ z ∈ m, z.1 ≤ max x.1 e) → (∀ z ∈ m, z.1 < x.2) →
    Srt (-1) (b.foldl (stM x) m) ∧ (∀ z ∈ b.foldl (stM x) m, z.2 ≤ M) ∧ (∀ n, has (b.foldl (stM x) m) n = (has m n || (inV x n && has b n))) ∧ (∀ z ∈ b.foldl (stM x) m, z.1 < x.2)
  | [], m, e, _, h1, h2, _, h4 => ⟨h1, h2, (fun n => by simp [has]), h4⟩
  | y :: b, m, e, hs, h1, h2, h3, h4 => by
    have hy := hs.1
    rw [List.foldl_cons]
    by_cases g : (both x y).2 ≤ (both x y).1
    · have es : stM x m y = m := pPut_none g
      rw [es]
      obtain ⟨i1, i2, i3, i4⟩ := meet_in h0 hM b (m := m) (e := y.2) hs.2 h1 h2 (fun z hz => by have := h3 z hz; omega) h4
      refine ⟨i1, i2, fun n => ?_, i4⟩
      rw [i3, has_cons]
      have := inV_both x y n
      have e2 : inV (both x y) n = false := decide_eq_false (by omega)
      rw [e2] at this
      show _ = (has m n || (inV x n && (inV y n || has b n)))
      rw [Bool.and_or_distrib_left, ← this, Bool.false_or]
    · have gb : (both x y).1 = max x.1 y.1 := rfl
      have gc : (both x y).2 = min x.2 y.2 := rfl
      obtain ⟨b1, b2, b3, b4⟩ := pPut_ok (x := both x y) (by omega) (M := M) (by omega) h1 h2 (fun z hz => by have := h3 z hz; omega) (by omega)
      obtain ⟨i1, i2, i3, i4⟩ := meet_in h0 hM b (m := pPut m (both x y)) (e := y.2) hs.2 b1 b2 (fun z hz => by
        rcases b4 z hz with h | ⟨w, hw, h⟩
        · omega
        · have := h3 w hw; omega) (fun z hz => by
        rcases b4 z hz with h | ⟨w, hw, h⟩
        · omega
        · have := h4 w hw; omega)
      refine ⟨i1, i2, fun n => ?_, i4⟩
      show has (b.foldl (stM x) (pPut m (both x y))) n = _
      rw [i3, b3, inV_both, has_cons]
      show _ = (has m n || (inV x n && (inV y n || has b n)))
      cases has m n <;> cases inV x n <;> cases inV y n <;> cases has b n <;> rfl
theorem meet_out {b : List Iv} (hb : Ok b) {M : Int} : ∀ (a : List Iv) {m : List Iv} {e : Int}, Srt e a → -1 ≤ e → (∀ z ∈ a, z.2 ≤ M) → Srt (-1) m → (∀ z ∈ m, z.2 ≤ M) → (∀ z ∈ m, z.1 ≤ e) →
    Srt (-1) (a.foldl (fun m x => b.foldl (stM x) m) m) ∧ (∀ z ∈ a.foldl (fun m x => b.foldl (stM x) m) m, z.2 ≤ M) ∧ (∀ n, has (a.foldl (fun m x => b.foldl (stM x) m) m) n = (has m n || (has a n && has b n)))
  | [], m, e, _, _, _, h1, h2, _ => ⟨h1, h2, (fun n => by simp [has])⟩
  | x :: a, m, e, hs, he, hu, h1, h2, h3 => by
    have hx := hs.1
    have hxM := hu x (by simp)
    rw [List.foldl_cons]
    obtain ⟨b1, b2, b3, b4⟩ := meet_in (x := x) (by omega) hxM b (m := m) (e := -1) hb.srt h1 h2 (fun z hz => by have := h3 z hz; omega) (fun z hz => by have := h3 z hz; omega)
    obtain ⟨i1, i2, i3⟩ := meet_out hb (M := M) a (m := b.foldl (stM x) m) (e := x.2) hs.2 (by omega) (fun z hz => hu z (List.mem_cons_of_mem _ hz)) b1 b2 (fun z hz => by have := b4 z hz; omega)
    refine ⟨i1, i2, fun n => ?_⟩
    rw [i3, b3, has_cons]
    show _ = (has m n || ((inV x n || has a n) && has b n))
    cases has m n <;> cases inV x n <;> cases has a n <;> cases has b n <;> rfl
theorem meet_ok {a b : List Iv} (ha : Ok a) (hb : Ok b) : Ok (rMeet a b) ∧ (∀ n, has (rMeet a b) n = (has a n && has b n)) := by
  have e : rMeet a b = pMeet a b := by
    unfold rMeet
    rw [iChk_iff.2 ha, iChk_iff.2 hb]
    rfl
  rw [e]
  obtain ⟨i1, i2, i3⟩ := meet_out hb (M := 4611686018427387903) a (m := []) (e := -1) ha.srt (by omega) ha.up trivial (fun z hz => by cases hz) (fun z hz => by cases hz)
  exact ⟨⟨i1, i2⟩, fun n => by show has (a.foldl (fun m x => b.foldl (stM x) m) []) n = _; rw [i3]; simp [has]⟩
end Go.Proofs.Ytfllhedkgeljaaa.C06
