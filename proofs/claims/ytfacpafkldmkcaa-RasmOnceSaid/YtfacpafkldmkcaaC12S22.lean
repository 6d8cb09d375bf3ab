/-
laws 12, plain: what was read of a text, and what came of it. No program.
-/
import Derived.Test.YtfacpafkldmkcaaC12S21
set_option linter.unusedSimpArgs false
set_option linter.unusedVariables false
namespace Go.Proofs.Ytfacpafkldmkcaa.C12
open Sx Go.RowKit

def cmJ (cm : List Bool) (a : Nat) : Nat → List Bool
  | 0 => cm
  | j + 1 => (cmJ cm a j).set (a + j) true
def frJ (cm : List Bool) (a : Nat) : Nat → Nat
  | 0 => 0
  | j + 1 => frJ cm a j + (if cm[a + j]? = some true then 0 else 1)
theorem cmJ_len (cm : List Bool) (a : Nat) : ∀ j, (cmJ cm a j).length = cm.length
  | 0 => rfl
  | j + 1 => by rw [cmJ, List.length_set, cmJ_len cm a j]
theorem cmJ_get (cm : List Bool) (a k : Nat) : ∀ j, (cmJ cm a j)[k]? = if (a ≤ k ∧ k < a + j) ∧ k < cm.length then some true else cm[k]?
  | 0 => by
    rw [if_neg (by omega)]; rfl
  | j + 1 => by
    rw [cmJ, List.getElem?_set, cmJ_len, cmJ_get cm a k j]
    by_cases h : a + j = k
    · subst h
      rw [if_pos rfl]
      by_cases h2 : a + j < cm.length
      · rw [if_pos h2, if_pos (by omega)]
      · rw [if_neg h2, if_neg (by omega), List.getElem?_eq_none_iff.2 (by omega)]
    · rw [if_neg h]
      by_cases h2 : (a ≤ k ∧ k < a + j) ∧ k < cm.length
      · rw [if_pos h2, if_pos (by omega)]
      · rw [if_neg h2, if_neg (by omega)]
theorem rOne_new {s : Rq} (h : Ok s) {k : Int} {c : List UInt8} (h1 : rS s ≤ k) (h2 : k < rLim s) : (rOne s k c).2 = (den s k).isNone := by
  unfold rOne
  by_cases g1 : k < s.b
  · rw [if_pos g1]
    obtain ⟨d, hd⟩ := den_r h1 g1
    rw [hd]; rfl
  · rw [if_neg g1, if_neg (by omega), den_ge (by omega)]
    by_cases g2 : s.p.any (inB k) = true
    · rw [if_pos g2]
      obtain ⟨y, hy, hz⟩ := List.any_eq_true.1 g2
      have hz := of_decide_eq_true hz
      obtain ⟨d, hd⟩ := dP_some hy hz.1 hz.2
      rw [hd]; rfl
    · rw [if_neg g2]
      have hn : dP s.p k = none := by
        cases hq : dP s.p k with
        | none => rfl
        | some c =>
          obtain ⟨y, hy, hz⟩ := dP_in hq
          exact absurd (List.any_eq_true.2 ⟨y, hy, decide_eq_true hz⟩) g2
      rw [hn]
      split <;> rfl
theorem rOne_low {s : Rq} (h : Ok s) {k : Int} {c : List UInt8} (h1 : k < rS s) : (rOne s k c).2 = false := by
  unfold rOne
  rw [if_pos (by unfold rS at h1; omega)]
theorem bA_zero {t : List UInt8} {k : Nat} : bA ⟨0, t⟩ k = t[k]? := by
  unfold bA
  rw [if_pos (by show (0 : Int) ≤ k; omega)]
  congr 1
/-- What holds all along. -/
structure PI (t : List UInt8) (s : Rq) (out : List UInt8) (cm : List Bool) : Prop where
  ok : Ok s
  cl : cm.length = 512
  ol : (out.length : Int) = rS s
  oe : out = t.take out.length
  low : ∀ k : Nat, (k : Int) < rS s → cm[k]? = some true
  dn : ∀ k : Nat, rS s ≤ k → den s k = if cm[k]? = some true then t[k]? else none
  hi : ∀ k : Nat, 510 ≤ k → cm[k]? ≠ some true
section
variable {t : List UInt8} {s : Rq} {out : List UInt8} {cm : List Bool}
theorem PI.cmt (h : PI t s out cm) {k : Nat} (hk : (k : Int) < s.b) : cm[k]? = some true := by
  by_cases h1 : (k : Int) < rS s
  · exact h.low k h1
  · obtain ⟨c, hc⟩ := den_r (s := s) (k := k) (by omega) hk
    rw [h.dn k (by omega)] at hc
    split at hc
    · assumption
    · cases hc
theorem PI.b (h : PI t s out cm) : 0 ≤ rS s ∧ rS s ≤ s.b ∧ s.b ≤ 510 ∧ 4096 ≤ rLim s := by
  have hb := h.ok.b
  have h0 : 0 ≤ rS s := by unfold rS; omega
  have h1 : rS s ≤ s.b := by unfold rS; omega
  refine ⟨h0, h1, ?_, ?_⟩
  · by_cases hc : s.b ≤ 510
    · exact hc
    · have hk := h.cmt (k := (s.b - 1).toNat) (by omega)
      exact absurd hk (h.hi _ (by omega))
  · show 4096 ≤ min (rS s + 4096) 1099511627776
    omega
theorem PI.bn (h : PI t s out cm) (ht : t.length = 512) : cm[s.b.toNat]? = some false := by
  have hb := h.b
  have h1 := h.dn s.b.toNat (by omega)
  rw [show ((s.b.toNat : Nat) : Int) = s.b by omega, den_b h.ok] at h1
  have h2 : s.b.toNat < cm.length := by rw [h.cl]; omega
  rw [List.getElem?_eq_getElem h2] at h1 ⊢
  cases hq : cm[s.b.toNat]
  · rfl
  · rw [hq] at h1
    simp only [if_true] at h1
    rw [List.getElem?_eq_getElem (by omega)] at h1
    cases h1
theorem PI.r (h : PI t s out cm) (i : Nat) (hi : i < s.r.length) : s.r[i]? = t[out.length + i]? := by
  have hb := h.b
  have ho := h.ol
  have hS : rS s = s.b - s.r.length := rfl
  have h1 := h.dn (out.length + i) (by omega)
  have h2 := h.cmt (k := out.length + i) (by omega)
  rw [h2, if_pos rfl] at h1
  rw [← h1]
  unfold den
  have h3 : dP s.p ((out.length + i : Nat) : Int) = none := srt_dP h.ok.srt _ (by omega)
  rw [h3, Option.or_none]
  unfold bA
  rw [if_pos (by show rS s ≤ _; omega)]
  congr 1
  show i = (((out.length + i : Nat) : Int) - rS s).toNat
  omega
theorem PI.glue (h : PI t s out cm) (n : Nat) (hn : n ≤ s.r.length) (ht : t.length = 512) : out ++ s.r.take n = t.take (out.length + n) := by
  refine List.ext_getElem? fun i => ?_
  rw [List.getElem?_take]
  by_cases h1 : i < out.length
  · rw [List.getElem?_append_left h1, if_pos (by omega)]
    have h2 := h.oe
    have h3 : (t.take out.length)[i]? = t[i]? := by rw [List.getElem?_take, if_pos h1]
    rw [← h3, ← h2]
  · rw [List.getElem?_append_right (by omega), List.getElem?_take]
    by_cases h2 : i < out.length + n
    · rw [if_pos (by omega), if_pos h2, h.r _ (by omega)]
      congr 1; omega
    · rw [if_neg (by omega), if_neg h2]
theorem PI.put (h : PI t s out cm) (ht : t.length = 512) {a n : Nat} (ha : a < 256) (hn : n < 256) : PI t (rPut s a (pc t a n)).1 out (cmJ cm a n) := by
  obtain ⟨i1, i2, i3, i4⟩ := rPut_ok h.ok a (by omega) (by omega) (pc t a n)
  have hb := h.b
  refine ⟨i1, by rw [cmJ_len]; exact h.cl, by rw [i2]; exact h.ol, h.oe, fun k hk => ?_, fun k hk => ?_, fun k hk => ?_⟩
  · rw [i2] at hk
    rw [cmJ_get]
    split
    · rfl
    · exact h.low k hk
  · rw [i2] at hk
    rw [i3, h.dn k hk, cmJ_get, pc_bA (by omega) (by omega) (by omega), bA_zero]
    have hcl := h.cl
    by_cases g : a ≤ k ∧ k < a + n
    · have e1 : rS s ≤ (k : Int) ∧ (k : Int) < rLim s := by omega
      have e2 : (a : Int) ≤ k ∧ (k : Int) < a + n := by omega
      have e3 : (a ≤ k ∧ k < a + n) ∧ k < cm.length := ⟨g, by omega⟩
      simp only [e1, e2, e3, and_self, if_true]
      split
      · rw [Option.or_self]
      · rw [Option.none_or]
    · have e2 : ¬((a : Int) ≤ k ∧ (k : Int) < a + n) := by omega
      have e3 : ¬((a ≤ k ∧ k < a + n) ∧ k < cm.length) := fun q => g q.1
      simp only [e2, e3, if_false, ite_self, Option.or_none]
  · rw [cmJ_get, if_neg (by omega)]
    exact h.hi k hk
theorem PI.count (h : PI t s out cm) (ht : t.length = 512) {a n : Nat} (ha : a < 256) (hn : n < 256) : ∀ j, j ≤ n → (dJ s a ((pc t a n).take j)).2.1 = (frJ cm a j : Int)
  | 0, _ => by simp [dJ, frJ]
  | j + 1, hj => by
    have ih := h.count ht ha hn j (by omega)
    have hl := pc_len (t := t) (a := (a : Int)) (n := (n : Int)) (by omega) (by omega) (by omega)
    have hg := get_of (l := pc t a n) (j := j) (by omega)
    obtain ⟨i1, i2, i3, i4, i5, i6, i7⟩ := dJ_ok h.ok a (pc t a n) j (by omega)
    rw [take_snoc hg, dJ_snoc]
    unfold stD frJ
    simp only
    rw [i5, ih]
    have hb := h.b
    have key : (rOne (dJ s a ((pc t a n).take j)).1 (a + (j : Int)) [(pc t a n)[j]'(by omega)]).2 = decide (¬ cm[a + j]? = some true) := by
      by_cases g : (a : Int) + j < rS s
      · rw [rOne_low i1 (by rw [i2]; exact g)]
        have := h.low (a + j) (by omega)
        rw [this]; rfl
      · have hz : bA ⟨(a : Int), (pc t a n).take j⟩ ((a : Int) + j) = none := bA_none.2 (.inr (by unfold pEnd; simp only [List.length_take]; omega))
        rw [rOne_new i1 (by rw [i2]; omega) (by rw [rLim_of i2]; omega), i3, hz, ite_self, Option.or_none]
        have hd := h.dn (a + j) (by omega)
        rw [show ((a + j : Nat) : Int) = (a : Int) + j by omega] at hd
        rw [hd]
        by_cases q : cm[a + j]? = some true
        · rw [if_pos q, List.getElem?_eq_getElem (by omega)]
          simp [q]
        · rw [if_neg q]
          simp [q]
    rw [key]
    by_cases q : cm[a + j]? = some true
    · simp [q]
    · simp [q]
theorem PI.read (h : PI t s out cm) (ht : t.length = 512) (m : Int) : PI t (rRead s m).1 (out ++ (rRead s m).2) cm := by
  have hz := ok_iff.2 h.ok
  unfold rRead
  by_cases hm : rChk s ≠ 0 ∨ m < 1
  · rw [if_pos hm]
    simp only [List.append_nil]
    exact h
  · rw [if_neg hm]
    have hb := h.ok.b
    have hB := h.b
    have hS : rS s = s.b - s.r.length := rfl
    have ho := h.ol
    obtain ⟨m', hm'⟩ : ∃ m', m' = min m.toNat s.r.length := ⟨_, rfl⟩
    have ed : s.r.drop m.toNat = s.r.drop m' := by
      by_cases g : m.toNat ≤ s.r.length
      · rw [show m' = m.toNat by omega]
      · rw [List.drop_eq_nil_of_le (by omega), List.drop_eq_nil_of_le (by omega)]
    have et : s.r.take m.toNat = s.r.take m' := by
      by_cases g : m.toNat ≤ s.r.length
      · rw [show m' = m.toNat by omega]
      · rw [List.take_of_length_le (by omega), List.take_of_length_le (by omega)]
    rw [ed, et]
    simp only
    have eS : rS ⟨s.b, s.r.drop m', s.p⟩ = rS s + m' := by unfold rS; simp only [List.length_drop]; omega
    have hlen : (out ++ s.r.take m').length = out.length + m' := by rw [List.length_append, List.length_take]; omega
    have hok := (rRead_ok h.ok m).1
    unfold rRead at hok
    rw [if_neg hm, ed] at hok
    refine ⟨hok, h.cl, by rw [eS, hlen]; push_cast; omega, by rw [hlen]; exact h.glue m' (by omega) ht, fun k hk => ?_, fun k hk => ?_, h.hi⟩
    · rw [eS] at hk
      exact h.cmt (by omega)
    · rw [eS] at hk
      rw [← h.dn k (by omega)]
      unfold den
      rw [eS, bA_drop, if_pos (by omega)]
theorem PI.zero (ht : t.length = 512) : PI t w0 [] (List.replicate 512 false) := by
  refine ⟨flat_ok (n := 0) (by omega) (by simp), List.length_replicate, rfl, rfl, fun k hk => ?_, fun k hk => ?_, fun k hk => ?_⟩
  · have : rS w0 = 0 := rfl
    omega
  · have e : (List.replicate 512 false)[k]? ≠ some true := by rw [List.getElem?_replicate]; split <;> simp
    rw [if_neg e]
    have : den w0 k = (bA ⟨0, []⟩ k).or none := rfl
    rw [this, Option.or_none]
    unfold bA
    simp
  · rw [List.getElem?_replicate]; split <;> simp
end
end Go.Proofs.Ytfacpafkldmkcaa.C12
