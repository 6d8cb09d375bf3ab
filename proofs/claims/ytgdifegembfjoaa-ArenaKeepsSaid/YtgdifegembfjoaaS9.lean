/-
laws 18, plain: what taking and giving back do to cells that may be. No program.
-/
import Derived.Test.YtgdifegembfjoaaS8
set_option linter.unusedSimpArgs false
set_option linter.unusedVariables false
namespace Go.Proofs.Ytgdifegembfjoaa
open Sx Go.RowKit

theorem live_set_ne {l : List Ce} {n : Nat} {c : Ce} {a : Int} (h0 : 0 ≤ a) (h : a ≠ n) : liveAt (l.set n c) a = liveAt l a := by
  unfold liveAt
  rw [List.getElem?_set_ne (by omega)]
theorem link_set_ne {l : List Ce} {n : Nat} {c : Ce} {a : Int} (h0 : 0 ≤ a) (h : a ≠ n) : linkAt (l.set n c) a = linkAt l a := by
  unfold linkAt
  rw [List.getElem?_set_ne (by omega)]
theorem val_set_ne {l : List Ce} {n : Nat} {c : Ce} {a : Int} (h0 : 0 ≤ a) (h : a ≠ n) : valAt (l.set n c) a = valAt l a := by
  unfold valAt
  rw [List.getElem?_set_ne (by omega)]
theorem ch_set {l : List Ce} {n : Nat} {c : Ce} : ∀ {sp : List Int} {a : Int}, (n : Int) ∉ sp → isCh l a sp → isCh (l.set n c) a sp
  | [], a, _, h => h
  | x :: r, a, hn, h => by
    obtain ⟨e0, h1, h2, h3, h4⟩ := h
    subst e0
    have e : x ≠ (n : Int) := fun e => hn (by rw [e]; exact List.mem_cons_self ..)
    refine ⟨rfl, h1, by rw [List.length_set]; exact h2, by rw [live_set_ne h1 e]; exact h3, ?_⟩
    rw [link_set_ne h1 e]
    exact ch_set (fun hm => hn (List.mem_cons_of_mem _ hm)) h4
def b1 (b : Bool) : Nat := if b then 1 else 0
theorem aN_cons (x : Ce) (l : List Ce) : aN (x :: l) = aN l + b1 x.v := by
  unfold aN b1
  rw [List.filter_cons]
  cases h : x.v <;> simp
theorem aN_app (l : List Ce) (c : Ce) : aN (l ++ [c]) = aN l + b1 c.v := by
  unfold aN b1
  rw [List.filter_append, List.length_append]
  cases h : c.v <;> simp [h]
theorem aN_set : ∀ {l : List Ce} {n : Nat} {c d : Ce}, l[n]? = some d → aN (l.set n c) + b1 d.v = aN l + b1 c.v
  | [], n, c, d, h => by simp at h
  | x :: l, 0, c, d, h => by
    simp at h
    subst h
    rw [List.set_cons_zero, aN_cons, aN_cons]
    omega
  | x :: l, n + 1, c, d, h => by
    rw [List.getElem?_cons_succ] at h
    have ih := aN_set (c := c) h
    rw [List.set_cons_succ, aN_cons, aN_cons]
    omega
/-- The value of a live one; none: 0. -/
def hv (s : Ar) (k : Int) : Int := if isLive s k = true then valAt s.l k else 0
theorem get_ok {s : Ar} (h : aChk s = 0) (k : Int) : aGet s k = (hv s k, isLive s k) := by
  unfold aGet hv
  cases hl : isLive s k
  · rw [if_neg (by simp), if_neg (by simp)]
  · rw [if_pos ⟨rfl, h⟩, if_pos rfl]
structure Upd (s A : Ar) (n : Nat) (c : Ce) : Prop where
  live : ∀ k : Int, k ≠ n → isLive A k = isLive s k
  val : ∀ k : Int, k ≠ n → hv A k = hv s k
  live' : isLive A n = c.v
  val' : hv A n = if c.v = true then c.x else 0
theorem upd_of {s A : Ar} {n : Nat} {c : Ce} (hn : A.l[n]? = some c) (h : ∀ k : Int, k ≠ n → isLive A k = isLive s k ∧ (isLive s k = true → valAt A.l k = valAt s.l k)) : Upd s A n c := by
  refine ⟨fun k hk => (h k hk).1, fun k hk => ?_, isLive_of hn, ?_⟩
  · unfold hv
    rw [(h k hk).1]
    split
    · next hl => exact (h k hk).2 hl
    · rfl
  · unfold hv
    rw [isLive_of hn, valAt_of hn]
theorem upd_set {s A : Ar} {n : Nat} {c : Ce} (hn : n < s.l.length) (hA : A.l = s.l.set n c) : Upd s A n c := by
  refine upd_of (by rw [hA]; exact List.getElem?_set_self hn) fun k hk => ?_
  unfold isLive
  rw [hA, List.length_set]
  by_cases h0 : 0 ≤ k
  · rw [live_set_ne h0 hk, val_set_ne h0 hk]
    exact ⟨rfl, fun _ => rfl⟩
  · rw [decide_eq_false (by omega)]
    exact ⟨rfl, fun h => by simp at h⟩
theorem upd_app {s A : Ar} {c : Ce} (hA : A.l = s.l ++ [c]) : Upd s A s.l.length c := by
  refine upd_of (by rw [hA]; simp) fun k hk => ?_
  by_cases h0 : 0 ≤ k ∧ k < (s.l.length : Int)
  · obtain ⟨m, rfl⟩ := Int.eq_ofNat_of_zero_le h0.1
    have hm : m < s.l.length := by omega
    have h1 := get_of hm
    have h2 : A.l[m]? = some s.l[m] := by rw [hA, List.getElem?_append_left hm]; exact h1
    rw [isLive_of h1, isLive_of h2, valAt_of h1, valAt_of h2]
    exact ⟨rfl, fun _ => rfl⟩
  · rw [isLive_no h0, isLive_no (by rw [hA]; simp; omega)]
    exact ⟨rfl, fun h => by cases h⟩
theorem mem_set {l : List Ce} {n : Nat} {c x : Ce} (h : x ∈ l.set n c) : x = c ∨ x ∈ l := (List.mem_or_eq_of_mem_set h).symm
/-- A cell that is taken. -/
theorem ok_take {s : Ar} {sp : List Int} (h : Ok s sp) (v : Int) (hu : s.u < 64) : ∃ (A : Ar) (n : Nat), aTake s v = (A, (n : Int), 0) ∧ n < 64 ∧ isLive s n = false ∧ Ok A sp.tail ∧ A.u = s.u + 1 ∧ Upd s A n ⟨true, v, 0⟩ ∧ (0 ≤ s.f → s.f = n) ∧ A.l.length ≤ max s.l.length (s.u + 1).toNat ∧ (sp = [] → A.l.length = s.l.length + 1) ∧ (sp ≠ [] → aGive A n = (s, 0)) := by
  have hc := chk_ok.2 ⟨sp, h⟩
  have hle := aN_le s.l
  have h1 := h.len
  have h2 := h.u
  have h3 := h.all
  have h4 := h.f
  have h5 := h.ch
  unfold aTake
  rw [if_neg (not_not_intro hc), if_neg (by omega)]
  cases sp with
  | nil =>
    have hf : s.f = -1 := h5
    simp only [List.length_nil] at h3
    rw [if_pos hf]
    refine ⟨_, s.l.length, rfl, by omega, isLive_no (by omega), ?_, rfl, upd_app rfl, fun g => by omega, by simp only [List.length_append, List.length_singleton]; omega, fun _ => by simp, fun g => absurd rfl g⟩
    refine ⟨by (simp <;> omega), by (simp <;> omega), ⟨fun c hm => ?_⟩, fun c hm => ?_, hf, List.nodup_nil, ?_, ?_⟩
    · rcases List.mem_append.1 hm with hm | hm
      · have := h.pl.link c hm; simp; omega
      · rw [List.mem_singleton.1 hm]; simp <;> omega
    · rcases List.mem_append.1 hm with hm | hm
      · exact h.odd c hm
      · rw [List.mem_singleton.1 hm]; rfl
    · show s.u + 1 = ((aN (s.l ++ [(⟨true, v, 0⟩ : Ce)]) : Nat) : Int); rw [aN_app]; show s.u + 1 = ((aN s.l + 1 : Nat) : Int); omega
    · show aN (s.l ++ [(⟨true, v, 0⟩ : Ce)]) + 0 = (s.l ++ [(⟨true, v, 0⟩ : Ce)]).length; rw [aN_app, List.length_append]; show aN s.l + 1 + 0 = s.l.length + 1; omega
  | cons x r =>
    obtain ⟨e0, g1, g2, g3, g4⟩ := h5
    obtain ⟨n, hn⟩ := Int.eq_ofNat_of_zero_le g1
    rw [hn] at e0 g3 g4
    subst e0
    have hl : n < s.l.length := by omega
    have hg := get_of hl
    have hnd := List.nodup_cons.1 h.nd
    rw [linkAt_of hg] at g4
    rw [liveAt_of hg] at g3
    have hv0 : (s.l[n]).x = 0 := by
      have := h.odd _ (List.getElem_mem hl)
      unfold aOdd at this
      rw [g3] at this
      simpa using this
    have hN := aN_set (c := ⟨true, v, 0⟩) hg
    rw [g3] at hN
    simp only [b1, if_true, Bool.false_eq_true, if_false] at hN
    have hlk := h.pl.link _ (List.getElem_mem hl)
    simp only [List.length_cons] at h3
    have hA : Ok ⟨s.l.set n ⟨true, v, 0⟩, (s.l[n]).l, s.u + 1⟩ r := by
      refine ⟨by (simp <;> omega), by (simp <;> omega), ⟨fun c hm => ?_⟩, fun c hm => ?_, ch_set hnd.1 g4, hnd.2, ?_, ?_⟩
      · rw [List.length_set]
        rcases mem_set hm with rfl | hm
        · simp; omega
        · exact h.pl.link c hm
      · rcases mem_set hm with rfl | hm
        · rfl
        · exact h.odd c hm
      · show s.u + 1 = ((aN (s.l.set n ⟨true, v, 0⟩) : Nat) : Int); omega
      · show aN (s.l.set n ⟨true, v, 0⟩) + r.length = (s.l.set n ⟨true, v, 0⟩).length; rw [List.length_set]; omega
    refine ⟨⟨s.l.set n ⟨true, v, 0⟩, (s.l[n]).l, s.u + 1⟩, n, ?_, by omega, ?_, hA, rfl, upd_set hl rfl, fun _ => hn, by simp only [List.length_set]; omega, fun g => (by cases g), fun _ => ?_⟩
    · rw [if_neg (by omega), hn, Int.toNat_natCast, linkAt_of hg]
    · rw [isLive_of hg, g3]
    · unfold aGive
      rw [if_neg (not_not_intro (chk_ok.2 ⟨r, hA⟩))]
      have hgA : (⟨s.l.set n ⟨true, v, 0⟩, (s.l[n]).l, s.u + 1⟩ : Ar).l[n]? = some ⟨true, v, 0⟩ := List.getElem?_set_self hl
      rw [isLive_of hgA, if_neg (by simp), Int.toNat_natCast]
      have e1 : (s.l.set n ⟨true, v, 0⟩).set n ⟨false, 0, (s.l[n]).l⟩ = s.l := by
        rw [List.set_set]
        have : (⟨false, 0, (s.l[n]).l⟩ : Ce) = s.l[n] := by
          rw [← g3, ← hv0]
        rw [this, List.set_getElem_self]
      have e2 : s.u + 1 - 1 = s.u := by omega
      simp only [e1, e2]
      obtain ⟨l, f, u⟩ := s
      simp only at hn
      rw [hn]
/-- A cell that is given back. -/
theorem ok_give {s : Ar} {sp : List Int} (h : Ok s sp) (n : Nat) (hv : isLive s n = true) : ∃ A : Ar, aGive s n = (A, 0) ∧ Ok A ((n : Int) :: sp) ∧ A.f = n ∧ A.u = s.u - 1 ∧ Upd s A n ⟨false, 0, s.f⟩ ∧ A.l.length = s.l.length := by
  have hc := chk_ok.2 ⟨sp, h⟩
  have hle := aN_le s.l
  have h1 := h.len
  have h2 := h.u
  have h3 := h.all
  have h4 := h.f
  unfold aGive
  rw [if_neg (not_not_intro hc), hv, if_neg (by simp), Int.toNat_natCast]
  obtain ⟨m, c, e, hg, hcv⟩ := isLive_yes hv
  have e : n = m := by omega
  subst e
  have hl := get_lt hg
  have hN := aN_set (c := ⟨false, 0, s.f⟩) hg
  rw [hcv] at hN
  simp only [b1, if_true, Bool.false_eq_true, if_false] at hN
  have hm : (n : Int) ∉ sp := fun hm => by
    have := (ch_mem h.ch _ hm).2.2
    rw [liveAt_of hg, hcv] at this
    cases this
  refine ⟨_, rfl, ?_, rfl, rfl, upd_set hl rfl, List.length_set⟩
  have hgA : (s.l.set n ⟨false, 0, s.f⟩)[n]? = some ⟨false, 0, s.f⟩ := List.getElem?_set_self hl
  refine ⟨by (simp <;> omega), by (simp <;> omega), ⟨fun c hm => ?_⟩, fun c hm => ?_, ⟨rfl, by simp, by (simp <;> omega), by rw [liveAt_of hgA], ?_⟩, List.nodup_cons.2 ⟨hm, h.nd⟩, ?_, ?_⟩
  · rw [List.length_set]
    rcases mem_set hm with rfl | hm
    · exact h4
    · exact h.pl.link c hm
  · rcases mem_set hm with rfl | hm
    · rfl
    · exact h.odd c hm
  · rw [linkAt_of hgA]
    exact ch_set hm h.ch
  · show s.u - 1 = ((aN (s.l.set n ⟨false, 0, s.f⟩) : Nat) : Int); omega
  · show aN (s.l.set n ⟨false, 0, s.f⟩) + ((n : Int) :: sp).length = (s.l.set n ⟨false, 0, s.f⟩).length; rw [List.length_set, List.length_cons]; omega
theorem give_no {s : Ar} {sp : List Int} (h : Ok s sp) (a : Int) (hv : isLive s a = false) : aGive s a = (s, 6) := by
  unfold aGive
  rw [if_neg (not_not_intro (chk_ok.2 ⟨sp, h⟩)), hv, if_pos rfl]
theorem take_full {s : Ar} {sp : List Int} (h : Ok s sp) (v : Int) (hu : ¬s.u < 64) : aTake s v = (s, 0, 7) ∧ s.u = 64 := by
  unfold aTake
  have := (chk_u (chk_ok.2 ⟨sp, h⟩)).2.1
  rw [if_neg (not_not_intro (chk_ok.2 ⟨sp, h⟩)), if_pos (by omega)]
  exact ⟨rfl, by omega⟩
theorem lix_take (l : List Ce) : ∀ j, j ≤ l.length → (lix l j).length = aN (l.take j)
  | 0, _ => by simp [lix, aN]
  | j + 1, h => by
    have hg := get_of (show j < l.length by omega)
    have ih := lix_take l j (by omega)
    unfold lix
    rw [aN_snoc hg, liveAt_of hg, List.length_append, ih]
    cases (l[j]).v <;> simp
theorem live_len {s : Ar} {sp : List Int} (h : Ok s sp) : ((aLv s).length : Int) = s.u := by
  unfold aLv
  rw [if_pos (chk_ok.2 ⟨sp, h⟩), lix_take _ _ (Nat.le_refl _), List.take_length, h.u]
theorem spare_ok {s : Ar} {sp : List Int} (h : Ok s sp) : aSp s = sp := by
  unfold aSp
  rw [if_pos (chk_ok.2 ⟨sp, h⟩), ok_ch h]
theorem ok_new : Ok ⟨[], -1, 0⟩ [] := ⟨by decide, by decide, ⟨fun c h => (by cases h)⟩, fun c h => (by cases h), rfl, List.nodup_nil, rfl, rfl⟩
end Go.Proofs.Ytgdifegembfjoaa
