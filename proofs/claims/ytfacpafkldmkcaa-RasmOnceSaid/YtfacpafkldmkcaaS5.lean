/-
laws 24, plain: a text in pieces; its end known once. No program.
-/
import Derived.Test.YtfacpafkldmkcaaS4
set_option linter.unusedSimpArgs false
set_option linter.unusedVariables false
namespace Go.Proofs.Ytfacpafkldmkcaa
open Sx Go.RowKit C12

/-- What holds all along: of a text of `z` bytes. -/
structure QI (t : List UInt8) (z : Nat) (x : Rs) (out : List UInt8) (cm : List Bool) (kn : Bool) : Prop where
  p : PI t x.s out cm
  lt : ∀ k : Nat, cm[k]? = some true → k < z
  e : x.e = if kn = true then (z : Int) else -1
section
variable {t : List UInt8} {z : Nat} {x : Rs} {out : List UInt8} {cm : List Bool} {kn : Bool}
theorem QI.b (h : QI t z x out cm kn) : x.s.b ≤ z := by
  by_cases g : x.s.b ≤ z
  · exact g
  · have := h.lt z (h.p.cmt (by omega))
    omega
theorem QI.hi (h : QI t z x out cm kn) : sHigh x ≤ z := by
  have h1 := srt_hi h.p.ok.srt (fun y hy => (h.p.ok.p y hy).1)
  by_cases hp : x.s.p = []
  · have hb := h.b
    show hiP x.s.b x.s.p ≤ z
    rw [hp]
    exact hb
  · obtain ⟨c, hc⟩ := h1.2.2 hp
    show hiP x.s.b x.s.p ≤ z
    have h2 := h1.2.1
    have hB := h.p.b
    have hk : x.s.b ≤ hiP x.s.b x.s.p - 1 := by
      by_cases g : x.s.b ≤ hiP x.s.b x.s.p - 1
      · exact g
      · have := srt_dP h.p.ok.srt (hiP x.s.b x.s.p - 1) (by omega)
        rw [this] at hc; cases hc
    have h3 := h.p.dn (hiP x.s.b x.s.p - 1).toNat (by omega)
    rw [show (((hiP x.s.b x.s.p - 1).toNat : Nat) : Int) = hiP x.s.b x.s.p - 1 by omega, den_ge hk, hc] at h3
    split at h3
    · next g => have := h.lt _ g; omega
    · cases h3
theorem QI.chk (h : QI t z x out cm kn) (hz : z ≤ 510) : sChk x = 0 := by
  refine sChk_of h.p.ok ?_
  have := h.hi
  have he := h.e
  cases kn
  · left; rw [he]; rfl
  · right
    rw [he]
    simp only [if_true]
    omega
theorem QI.open_ (h : QI t z x out cm kn) (to : Int) (fin : Bool) (h1 : to ≤ z) (h2 : fin = true → to = z) : sClosed x to fin = false := by
  have hh := h.hi
  have he := h.e
  unfold sClosed
  cases kn
  · rw [if_neg (by rw [he]; simp)]
    cases fin
    · rfl
    · have := h2 rfl
      simp only [Bool.true_and]
      exact decide_eq_false (by omega)
  · have e : x.e = z := he
    rw [if_pos (by omega), decide_eq_false (by omega)]
    cases fin
    · rfl
    · have := h2 rfl
      simp only [Bool.true_and, Bool.false_or]
      exact decide_eq_false (by omega)
theorem QI.put (h : QI t z x out cm kn) (ht : t.length = 512) (hz : z ≤ 255) {a n : Nat} (hn : a + n ≤ z) (fin : Bool) (hf : fin = true → a + n = z) (hh : rHeld x.s < 100000) :
    sPut x a (pc t a n) fin = (⟨(rPut x.s a (pc t a n)).1, if fin = true then (z : Int) else x.e⟩, (rPut x.s a (pc t a n)).2, 0) ∧ QI t z ⟨(rPut x.s a (pc t a n)).1, if fin = true then (z : Int) else x.e⟩ out (cmJ cm a n) (kn || fin) := by
  have hl := pc_len (t := t) (a := (a : Int)) (n := (n : Int)) (by omega) (by omega) (by omega)
  rw [Int.toNat_natCast] at hl
  have hc := h.chk (by omega)
  refine ⟨?_, ?_, ?_, ?_⟩
  · unfold sPut
    rw [if_neg (by omega), hl, h.open_ ((a : Int) + (n : Int)) fin (by omega) (fun g => by have := hf g; omega)]
    simp only [Bool.false_eq_true, if_false]
    cases fin
    · rfl
    · have := hf rfl
      simp only [if_true]
      rw [show (a : Int) + (n : Int) = z by omega]
  · by_cases hn0 : n = 256
    · omega
    · exact h.p.put ht (by omega) (by omega)
  · intro k hk
    rw [cmJ_get] at hk
    split at hk
    · omega
    · exact h.lt k hk
  · show (if fin = true then (z : Int) else x.e) = _
    cases fin
    · rw [Bool.or_false]; exact h.e
    · rw [Bool.or_true]; rfl
theorem QI.read (h : QI t z x out cm kn) (ht : t.length = 512) (m : Int) : QI t z (sRead x m).1 (out ++ (sRead x m).2.1) cm kn := ⟨h.p.read ht m, h.lt, h.e⟩
theorem QI.ended (h : QI t z x out cm kn) (hz : z ≤ 510) : sEnded x = (kn && decide (out.length = z)) := by
  have hc := h.chk hz
  have hb := h.b
  have ho := h.p.ol
  have he := h.e
  have hS : rS x.s = x.s.b - x.s.r.length := rfl
  unfold sEnded sWhole
  rw [hc]
  cases kn
  · rw [show decide (x.e ≥ 0) = false from decide_eq_false (by rw [he]; simp)]
    simp
  · have e : x.e = z := he
    rw [e, decide_eq_true (by omega)]
    by_cases g : out.length = z
    · have hr : x.s.r.length = 0 := by omega
      have hb2 : x.s.b = z := by omega
      rw [List.length_eq_zero_iff.1 hr, hb2]
      simp [g]
    · rw [decide_eq_false g]
      by_cases hr : x.s.r = []
      · rw [hr] at hS
        simp only [List.length_nil] at hS
        have : (x.s.b == (z : Int)) = false := beq_f (by omega)
        rw [this]; simp
      · have : (x.s.r == []) = false := by simpa using hr
        rw [this]; simp
theorem QI.whole (h : QI t z x out cm kn) (hw : sWhole x = true) : kn = true := by
  unfold sWhole at hw
  have he := h.e
  cases kn
  · rw [show decide (x.e ≥ 0) = false from decide_eq_false (by rw [he]; simp)] at hw
    simp at hw
  · rfl
theorem QI.outl (h : QI t z x out cm kn) : out.length ≤ z := by
  have h1 := h.b
  have h2 := h.p.b
  have h3 := h.p.ol
  omega
theorem QI.over (h : QI t z x out cm kn) (hz : z ≤ 510) (hk : kn = true) (d : List UInt8) (hd : d ≠ []) (hd2 : d.length < 1000) : sPut x z d false = (x, 0, 5) := by
  have hc := h.chk (by omega)
  have he := h.e
  rw [if_pos hk] at he
  have hl := List.length_pos_iff.2 hd
  unfold sPut
  rw [if_neg (by omega), if_pos]
  unfold sClosed
  rw [if_pos (by omega), decide_eq_true (by omega)]
  rfl
end
theorem QI.zero {t : List UInt8} (ht : t.length = 512) (z : Nat) : QI t z wn [] (List.replicate 512 false) false :=
  ⟨PI.zero ht, fun k hk => by rw [List.getElem?_replicate] at hk; split at hk <;> simp at hk, rfl⟩
/-- All came. -/
theorem QI.all {t : List UInt8} {z : Nat} {x : Rs} {out : List UInt8} {cm : List Bool} {kn : Bool} (h : QI t z x out cm kn) (ht : t.length = 512) (hz : z ≤ 255) (hc : ∀ k, k < z → cm[k]? = some true) : x.s.b = z := by
  have hb := h.b
  have h0 := h.p.b
  have hn := h.p.bn ht
  by_cases g : x.s.b = z
  · exact g
  · have := hc x.s.b.toNat (by omega)
    rw [this] at hn; cases hn
end Go.Proofs.Ytfacpafkldmkcaa
