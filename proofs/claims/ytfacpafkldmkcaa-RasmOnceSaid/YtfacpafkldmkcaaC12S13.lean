/-
laws 12: the program's Put, joined; what it leaves, byte by byte.
-/
import Derived.Test.YtfacpafkldmkcaaC12S12
set_option linter.unusedSimpArgs false
set_option linter.unusedVariables false
set_option linter.unusedSimpArgs false
set_option linter.unusedVariables false
namespace Go.Proofs.Ytfacpafkldmkcaa.C12
open Sx Go.RowKit

theorem rCut_a {s : Rq} {k : Int} {d : List UInt8} : (rCut s k d).a = max k s.b := by
  unfold rCut
  split
  · show s.b = _; omega
  · show k = _; omega
theorem rCut_len {s : Rq} {k : Int} {d : List UInt8} : (rCut s k d).d.length ≤ d.length := by
  unfold rCut
  split
  · show (List.drop _ (List.take _ _)).length ≤ _
    rw [List.length_drop, List.length_take]; omega
  · show (List.take _ _).length ≤ _
    rw [List.length_take]; omega
theorem cut_take (s : Rq) (k : Int) (d : List UInt8) (h : k < rLim s) (j : Int) : bA ⟨k, d.take (min (d.length : Int) (rLim s - k)).toNat⟩ j = if j < rLim s then bA ⟨k, d⟩ j else none := by
  rw [bA_take]
  by_cases h1 : j < rLim s
  · rw [if_pos h1]
    by_cases h2 : j < k + ((min (d.length : Int) (rLim s - k)).toNat : Int)
    · rw [if_pos h2]
    · rw [if_neg h2]
      exact (bA_none.2 (by unfold pEnd; show j < k ∨ k + (d.length : Int) ≤ j; omega)).symm
  · rw [if_neg h1, if_neg (by omega)]
theorem rCut_bA {s : Rq} {k : Int} {d : List UInt8} (h : k < rLim s) (j : Int) : bA (rCut s k d) j = if s.b ≤ j ∧ j < rLim s then bA ⟨k, d⟩ j else none := by
  unfold rCut
  by_cases hb : k < s.b
  · rw [if_pos hb]
    have e := cut_take s k d h
    generalize hd1 : d.take (min (d.length : Int) (rLim s - k)).toNat = d1 at e ⊢
    by_cases hm : s.b - k ≤ d1.length
    · have ea : s.b = k + ((min (d1.length : Int) (s.b - k)).toNat : Int) := by omega
      have h2 := bA_drop k d1 (min (d1.length : Int) (s.b - k)).toNat j
      rw [← ea] at h2
      rw [h2, e j]
      by_cases g : s.b ≤ j <;> by_cases g2 : j < rLim s <;> simp [g, g2]
    · have e0 : (min (d1.length : Int) (s.b - k)).toNat = d1.length := by omega
      rw [e0, List.drop_length]
      have hz : bA ⟨s.b, []⟩ j = none := bA_none.2 (by unfold pEnd; simp; omega)
      rw [hz]
      split
      · next g =>
        have h3 := e j
        rw [if_pos g.2] at h3
        rw [← h3]
        exact (bA_none.2 (by unfold pEnd; simp only; omega)).symm
      · rfl
  · rw [if_neg hb]
    show bA ⟨k, _⟩ j = _
    rw [cut_take s k d h]
    by_cases g : s.b ≤ j
    · simp [g]
    · have hz : bA ⟨k, d⟩ j = none := bA_none.2 (.inl (by show j < k; omega))
      simp [g, hz]
theorem rCut_end {s : Rq} {k : Int} {d : List UInt8} (h : k < rLim s) (hx : (rCut s k d).d ≠ []) : pEnd (rCut s k d) ≤ rLim s := by
  have hg := pEnd_gt hx
  obtain ⟨c, hc⟩ := bA_some (x := rCut s k d) (k := pEnd (rCut s k d) - 1) (by omega) (by omega)
  rw [rCut_bA h] at hc
  split at hc
  · next g => omega
  · cases hc
theorem ends_of {l m : List Pt} {x : Pt} {lim : Int} (hm : ∀ y ∈ m, y.d ≠ []) (hd : ∀ k, dP m k = (dP l k).or (bA x k)) (hl : ∀ y ∈ l, pEnd y ≤ lim) (hx : pEnd x ≤ lim) : ∀ y ∈ m, y.d ≠ [] ∧ pEnd y ≤ lim := fun y hy => by
  have hg := pEnd_gt (hm y hy)
  refine ⟨hm y hy, ?_⟩
  obtain ⟨c, hc⟩ := dP_some (k := pEnd y - 1) hy (by omega) (by omega)
  rw [hd] at hc
  cases hq : dP l (pEnd y - 1) with
  | some c' =>
    obtain ⟨z, hz, h1, h2⟩ := dP_in hq
    have := hl z hz
    omega
  | none =>
    rw [hq, Option.none_or] at hc
    have := bA_in hc
    omega
theorem rTop_y {s : Rq} {f : Pt} {r : List Pt} (h : f.a = s.b) : rTop s (f :: r) = ⟨pEnd f, s.r ++ f.d, r⟩ := by
  show (if f.a = s.b then _ else _) = _
  rw [if_pos h]
theorem rTop_n {s : Rq} {f : Pt} {r : List Pt} (h : ¬f.a = s.b) : rTop s (f :: r) = ⟨s.b, s.r, f :: r⟩ := by
  show (if f.a = s.b then _ else _) = _
  rw [if_neg h]
theorem rTop_ok {s : Rq} (h : Ok s) {l : List Pt} (hs : Srt (s.b - 1) l) (hl : ∀ y ∈ l, y.d ≠ [] ∧ pEnd y ≤ rLim s) (hne : l ≠ []) :
    Ok (rTop s l) ∧ rS (rTop s l) = rS s ∧ ∀ k, den (rTop s l) k = (bA ⟨rS s, s.r⟩ k).or (dP l k) := by
  cases l with
  | nil => exact absurd rfl hne
  | cons f r =>
    have hb := h.b
    have hf := hl f (List.mem_cons_self ..)
    have hs1 := hs.1
    by_cases hfa : f.a = s.b
    · rw [rTop_y hfa]
      have e0 : rS ⟨pEnd f, s.r ++ f.d, r⟩ = rS s := by
        unfold rS pEnd; simp only [List.length_append]; omega
      have e1 := rLim_of e0
      have hlim : rLim s = min (rS s + 4096) 1099511627776 := rfl
      have hle : pEnd f ≤ rLim s := hf.2
      have hpf := pEnd_ge f
      refine ⟨⟨?_, ?_, fun y hy => ?_⟩, e0, fun k => ?_⟩
      · simp only [List.length_append]
        unfold rS at hlim
        unfold pEnd at hle hpf ⊢
        omega
      · exact hs.2
      · rw [e1]; exact hl y (List.mem_cons_of_mem _ hy)
      · unfold den
        rw [e0, bA_glue]
        have : rS s + (s.r.length : Int) = f.a := by unfold rS; omega
        rw [this, Option.or_assoc]
        rfl
    · rw [rTop_n hfa]
      exact ⟨⟨hb, ⟨by show s.b < f.a; omega, hs.2⟩, hl⟩, rfl, fun k => rfl⟩
theorem put_cut {s : Rq} (h : Ok s) {k : Int} {d : List UInt8} (h1 : k < rLim s) (hx : (rCut s k d).d ≠ []) :
    Srt (s.b - 1) (jn s.p (rCut s k d)) ∧ (∀ y ∈ jn s.p (rCut s k d), y.d ≠ [] ∧ pEnd y ≤ rLim s) ∧ (∀ j, dP (jn s.p (rCut s k d)) j = (dP s.p j).or (bA (rCut s k d) j)) ∧ (jn s.p (rCut s k d)).length ≤ s.p.length + 1 ∧ sumD (jn s.p (rCut s k d)) ≤ sumD s.p + d.length := by
  obtain ⟨i1, i2, i3, i4, i5⟩ := jn_ok s.p (s.b - 1) (rCut s k d) (srt_up (by omega) h.srt) (fun y hy => (h.p y hy).1) (by rw [rCut_a]; omega) hx
  have := rCut_len (s := s) (k := k) (d := d)
  exact ⟨i1, ends_of i2 i3 (fun y hy => (h.p y hy).2) (rCut_end h1 hx), i3, i4, by omega⟩
theorem jn_ne (l : List Pt) (x : Pt) : jn l x ≠ [] := by unfold jn; simp
/-- What Put leaves. -/
theorem rPut_ok {s : Rq} (h : Ok s) (k : Int) (h0 : 0 ≤ k) (h1 : k ≤ 1099511627776) (d : List UInt8) :
    Ok (rPut s k d).1 ∧ rS (rPut s k d).1 = rS s ∧ (∀ j, den (rPut s k d).1 j = (den s j).or (if rS s ≤ j ∧ j < rLim s then bA ⟨k, d⟩ j else none)) ∧ (rPut s k d).2 = (rHeld (rPut s k d).1 : Int) - rHeld s := by
  have hz : rChk s = 0 := ok_iff.2 h
  unfold rPut
  rw [if_neg (by omega)]
  have low : ∀ j c, rS s ≤ j → j < s.b → (den s j).or c = den s j := fun j c g1 g2 => by
    obtain ⟨x, hx⟩ := den_r g1 g2
    rw [hx]; rfl
  by_cases hk : k ≥ rLim s
  · rw [if_pos hk]
    refine ⟨h, rfl, fun j => ?_, by simp⟩
    have : (if rS s ≤ j ∧ j < rLim s then bA ⟨k, d⟩ j else none) = none := by
      split
      · exact bA_none.2 (.inl (by show j < k; omega))
      · rfl
    rw [this, Option.or_none]
  · rw [if_neg hk]
    have hk := Int.not_le.1 hk
    have key : ∀ j, (den s j).or (bA (rCut s k d) j) = (den s j).or (if rS s ≤ j ∧ j < rLim s then bA ⟨k, d⟩ j else none) := fun j => by
      rw [rCut_bA hk]
      by_cases g1 : s.b ≤ j
      · have : rS s ≤ j := by unfold rS; omega
        simp [g1, this]
      · by_cases g2 : rS s ≤ j
        · rw [low j _ g2 (by omega), low j _ g2 (by omega)]
        · simp [g1, g2]
    by_cases hx : (rCut s k d).d = []
    · rw [if_pos hx]
      refine ⟨h, rfl, fun j => ?_, by simp⟩
      rw [← key j]
      have : bA (rCut s k d) j = none := bA_none.2 (by unfold pEnd; rw [hx]; simp; omega)
      rw [this, Option.or_none]
    · rw [if_neg hx]
      obtain ⟨i1, i2, i3, i4, i5⟩ := put_cut h hk hx
      obtain ⟨j1, j2, j3⟩ := rTop_ok h i1 i2 (jn_ne _ _)
      refine ⟨j1, j2, fun j => ?_, rfl⟩
      rw [j3, i3, ← Option.or_assoc]
      exact key j
theorem put11 (s : Rq) (hb : Rb s) (hl : s.p.length < 900000) (k : Int) (d : List UInt8) (hd : rHeld s + d.length < 900000) :
    FnOK Try.prog 28 [.d (rqD s), .d (.int .i64 k), .d (.str d)] [] (.tup [.d (rqD (rPut s k d).1), .d (.int .i64 (rPut s k d).2)]) [] := by
  have hd0 : d.length < 1000000 := by omega
  have hl0 : s.p.length < 1000000 := by omega
  unfold rPut
  by_cases hno : k < 0 ∨ k > 1099511627776 ∨ rChk s ≠ 0
  · rw [if_pos hno]; exact put11a s hb hl0 k d hd0 _ rfl hno
  · rw [if_neg hno]
    have he : rChk s = 0 := by omega
    have h := ok_iff.1 he
    by_cases hk : k ≥ rLim s
    · rw [if_pos hk]; exact put11b s hb hl0 k d hd0 he (by omega) (by omega) _ rfl hk
    · rw [if_neg hk]
      by_cases hx : (rCut s k d).d = []
      · rw [if_pos hx]
        by_cases hc : k < s.b
        · refine put11c s hb hl0 k d hd0 he (by omega) (by omega) _ rfl hk hc _ _ rfl rfl ?_
          unfold rCut at hx
          rw [if_pos hc] at hx
          exact hx
        · refine put11d s hb hl0 k d hd0 he (by omega) (by omega) _ rfl hk hc _ rfl ?_
          unfold rCut at hx
          rw [if_neg hc] at hx
          exact hx
      · rw [if_neg hx]
        have hhd := rHeld_def s
        have hb' := h.b
        obtain ⟨i1, i2, i3, i4, i5⟩ := put_cut h (Int.not_le.1 hk) hx
        have hca := rCut_a (s := s) (k := k) (d := d)
        have hcl := rCut_len (s := s) (k := k) (d := d)
        have hce := rCut_end (Int.not_le.1 hk) hx
        have hcg := pEnd_gt hx
        have hll := rLim_le s
        have hsm : ∀ y ∈ s.p, Sm y := fun y hy => by
          have h1 := h.p y hy
          have h2 := pEnd_gt h1.1
          have h3 : s.b < y.a := by
            have : ∀ {l : List Pt} {e : Int}, Srt e l → ∀ y ∈ l, e < y.a := by
              intro l
              induction l with
              | nil => intro e _ y hy; cases hy
              | cons x r ih =>
                intro e hs y hy
                rcases List.mem_cons.1 hy with rfl | hy
                · exact hs.1
                · have := ih hs.2 y hy
                  have := pEnd_ge x
                  have := hs.1
                  omega
            exact this h.srt y hy
          have h4 : y.d.length ≤ sumD s.p := by
            have : ∀ {l : List Pt}, y ∈ l → y.d.length ≤ sumD l := by
              intro l
              induction l with
              | nil => intro hy; cases hy
              | cons x r ih =>
                intro hy
                rw [sumD_cons]
                rcases List.mem_cons.1 hy with rfl | hy
                · omega
                · have := ih hy; omega
            exact this hy
          exact ⟨by omega, by omega⟩
        have k5 := join32' s.p hl0 s.b h.srt (rCut s k d) (by omega) (by omega) hsm
        have hne := jn_ne s.p (rCut s k d)
        generalize hj : jn s.p (rCut s k d) = l at *
        cases l with
        | nil => exact absurd rfl hne
        | cons f r =>
          have hf := i2 f (List.mem_cons_self ..)
          have hfg := pEnd_gt hf.1
          have hfa := i1.1
          rw [sumD_cons] at i5
          simp only [List.length_cons] at i4
          have hfe : IntKind.i64.wrap (pEnd f) = pEnd f := by rw [IntKind.wrap_i64]; omega
          have k6 := held28 s (by omega) (by omega)
          by_cases hfb : f.a = s.b
          · rw [rTop_y hfb]
            have hh : rHeld ⟨pEnd f, s.r ++ f.d, r⟩ = s.r.length + f.d.length + sumD r := by rw [rHeld_def]; simp only [List.length_append]
            have k7 := held28 ⟨pEnd f, s.r ++ f.d, r⟩ (by omega) (by show r.length < _; omega)
            by_cases hc : k < s.b
            · refine put11e s hb hl0 k d hd0 he (by omega) (by omega) _ rfl hk hc _ rfl _ rfl ?_ (rCut s k d) f r hj k5 _ _ k6 (by omega) (by omega) (by omega) hfe (by omega) ?_ hfb k7
              · unfold rCut at hx; rw [if_pos hc] at hx; exact hx
              · unfold rCut; rw [if_pos hc]
            · refine put11g s hb hl0 k d hd0 he (by omega) (by omega) _ rfl hk hc _ rfl ?_ (rCut s k d) f r hj k5 _ _ k6 (by omega) (by omega) (by omega) hfe (by omega) ?_ hfb k7
              · unfold rCut at hx; rw [if_neg hc] at hx; exact hx
              · unfold rCut; rw [if_neg hc]
          · rw [rTop_n hfb]
            have hh : rHeld ⟨s.b, s.r, f :: r⟩ = s.r.length + (f.d.length + sumD r) := by rw [rHeld_def, sumD_cons]
            have k7 := held28 ⟨s.b, s.r, f :: r⟩ (by omega) (by show (f :: r).length < _; simp only [List.length_cons]; omega)
            by_cases hc : k < s.b
            · refine put11f s hb hl0 k d hd0 he (by omega) (by omega) _ rfl hk hc _ rfl _ rfl ?_ (rCut s k d) f r hj k5 _ _ k6 (by omega) (by omega) (by omega) hfe (by omega) ?_ hfb _ rfl k7
              · unfold rCut at hx; rw [if_pos hc] at hx; exact hx
              · unfold rCut; rw [if_pos hc]
            · refine put11h s hb hl0 k d hd0 he (by omega) (by omega) _ rfl hk hc _ rfl ?_ (rCut s k d) f r hj k5 _ _ k6 (by omega) (by omega) (by omega) hfe (by omega) ?_ hfb _ rfl k7
              · unfold rCut at hx; rw [if_neg hc] at hx; exact hx
              · unfold rCut; rw [if_neg hc]
end Go.Proofs.Ytfacpafkldmkcaa.C12
