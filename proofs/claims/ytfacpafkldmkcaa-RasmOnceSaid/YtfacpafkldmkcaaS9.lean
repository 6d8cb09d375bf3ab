/-
laws 24: RasmOnce, joined. No condition beyond the statement's own.
-/
import Derived.Test.YtfacpafkldmkcaaS8
set_option linter.unusedSimpArgs false
set_option linter.unusedVariables false
namespace Go.Proofs.Ytfacpafkldmkcaa
open Sx Go.RowKit C12

theorem rput_same {s : Rq} (h : Ok s) (k : Int) (h0 : 0 ≤ k) (h1 : k ≤ 1099511627776) (d : List UInt8) (hd : ∀ j, (den s j).or (cvr s k d j) = den s j) : rPut s k d = (s, 0) := by
  obtain ⟨i1, i2, i3, i4⟩ := rPut_ok h k h0 h1 d
  have e : (rPut s k d).1 = s := den_inj i1 h i2 fun j => (i3 j).trans (hd j)
  refine Prod.ext e ?_
  rw [i4, e]
  show _ = (0 : Int)
  omega
/-- A text with a stretch at a place. -/
def pad (a : Nat) (s : List UInt8) : List UInt8 := List.replicate a 0 ++ (s ++ List.replicate (512 - a - s.length) 0)
theorem pad_len {a : Nat} {s : List UInt8} (h : a + s.length ≤ 512) : (pad a s).length = 512 := by
  unfold pad
  simp only [List.length_append, List.length_replicate]
  omega
theorem pad_pc (a : Nat) (s : List UInt8) : pc (pad a s) a s.length = s := by
  unfold pc pad
  rw [show ((a : Int) + (s.length : Int)).toNat = a + s.length by omega, Int.toNat_natCast, List.take_append, List.drop_append]
  simp only [List.length_take, List.length_replicate, show min (a + s.length) a = a by omega, show a + s.length - a = s.length by omega, Nat.sub_self, List.drop_zero, List.take_replicate]
  rw [List.drop_eq_nil_of_le (by simp), List.nil_append, List.take_left]
theorem frJ_fresh (cm : List Bool) (h : ∀ k : Nat, cm[k]? ≠ some true) (a : Nat) : ∀ n, frJ cm a n = n
  | 0 => rfl
  | n + 1 => by rw [show frJ cm a (n + 1) = frJ cm a n + (if cm[a + n]? = some true then 0 else 1) from rfl, frJ_fresh cm h a n, if_neg (h _)]
theorem fls (k : Nat) : (List.replicate 512 false)[k]? ≠ some true := by rw [List.getElem?_replicate]; split <;> simp
theorem rasmOnce_ok (x0 : D) (s0 : ∃ ds, CK.hasL [.str] ds ∧ (if false then x0 = .agg ds else ds = [x0])) (x1 : D) (s1 : ∃ ds, CK.hasL [.int .u8] ds ∧ (if false then x1 = .agg ds else ds = [x1])) (x2 : D) (s2 : ∃ ds, CK.hasL [.str] ds ∧ (if false then x2 = .agg ds else ds = [x2])) :
    FnOK Try.prog 5 [.d x0, .d x1, .d x2] [] (.d (.bool true)) [] := by
  obtain ⟨s, rfl, -⟩ := has_str (ck1 s0)
  obtain ⟨ai, rfl, a0, a1⟩ := has_u8 (ck1 s1)
  obtain ⟨t, rfl, -⟩ := has_str (ck1 s2)
  by_cases h : s.length ≤ 200 ∧ t.length ≤ 200
  · obtain ⟨a, rfl⟩ : ∃ a : Nat, ai = a := ⟨ai.toNat, by omega⟩
    have hT := pad_len (a := a) (s := s) (by omega)
    have hpc := pad_pc a s
    generalize pad a s = T at hT hpc
    obtain ⟨z, hz⟩ : ∃ z, a + s.length = z := ⟨_, rfl⟩
    have q0 := QI.zero hT z
    have p0 := PI.zero hT
    have p1 := p0.put hT (a := a) (n := s.length) (by omega) (by omega)
    have cnt := p0.count hT (a := a) (n := s.length) (by omega) (by omega) s.length (Nat.le_refl _)
    rw [hpc, List.take_length, frJ_fresh _ fls] at cnt
    rw [hpc] at p1
    have hcm : ∀ k : Nat, (cmJ (List.replicate 512 false) a s.length)[k]? = if (a ≤ k ∧ k < a + s.length) ∧ k < 512 then some true else (List.replicate 512 false)[k]? := fun k => by
      rw [cmJ_get, List.length_replicate]
    have hcmt : ∀ k : Nat, (cmJ (List.replicate 512 false) a s.length)[k]? = some true ↔ a ≤ k ∧ k < z := fun k => by
      rw [hcm]
      constructor
      · intro g
        split at g
        · omega
        · exact absurd g (fls k)
      · intro g
        rw [if_pos (by omega)]
    have q1 : QI T z ⟨(rPut w0 a s).1, (z : Int)⟩ [] (cmJ (List.replicate 512 false) a s.length) true := ⟨p1, fun k hk => ((hcmt k).1 hk).2, rfl⟩
    have hn : (rPut w0 a s).2 = (s.length : Int) := by rw [put_same p0.ok a (by omega) (by omega)]; exact cnt
    have hh := (rHeld_put p0.ok a (by omega) (by omega) s).1
    rw [show rHeld w0 = 0 from rfl, Nat.zero_add] at hh
    have c0 := q0.chk (by omega)
    have c1' := q1.chk (by omega)
    have e1 : sPut wn a s true = (⟨(rPut w0 a s).1, (z : Int)⟩, (s.length : Int), 0) := by
      unfold sPut
      rw [if_neg (by omega), q0.open_ ((a : Int) + s.length) true (by omega) (fun _ => by omega)]
      simp only [Bool.false_eq_true, if_false, if_true]
      rw [show (a : Int) + (s.length : Int) = z by omega]
      exact congrArg (fun n => ((⟨(rPut w0 a s).1, (z : Int)⟩ : Rs), n, (0 : Int))) hn
    generalize hS : (rPut w0 a s).1 = S at *
    have hok := q1.p.ok
    have e3 : sPut ⟨S, (z : Int)⟩ ((z : Int) + 1) [] true = (⟨S, (z : Int)⟩, 0, 5) := by
      unfold sPut
      rw [if_neg (by simp only [List.length_nil]; omega), if_pos]
      unfold sClosed
      rw [if_pos (by show (z : Int) ≥ 0; omega), decide_eq_true (by show (z : Int) + 1 + (0 : Int) > z; omega)]
      rfl
    have e4 : sPut ⟨S, (z : Int)⟩ a s true = (⟨S, (z : Int)⟩, 0, 0) := by
      have hsame : rPut S a s = (S, 0) := rput_same hok a (by omega) (by omega) s fun j => by
        cases g : cvr S a s j with
        | none => rw [Option.or_none]
        | some c =>
          unfold cvr at g
          split at g
          · next g2 =>
            have g3 := bA_in g
            have g4 : (a : Int) ≤ j ∧ j < a + s.length := g3
            have h5 := q1.p.dn j.toNat (by show rS S ≤ _; omega)
            rw [(hcmt j.toNat).2 (by omega), if_pos rfl, show ((j.toNat : Nat) : Int) = j by omega, List.getElem?_eq_getElem (by omega)] at h5
            have h6 : den S j = some _ := h5
            rw [h6]; rfl
          · cases g
      unfold sPut
      rw [if_neg (by omega), q1.open_ ((a : Int) + s.length) true (by omega) (fun _ => by omega)]
      simp only [Bool.false_eq_true, if_false, if_true]
      rw [hsame, show (a : Int) + (s.length : Int) = z by omega]
    have e5 : sWhole ⟨S, (z : Int)⟩ = (a == 0) := by
      have hB := q1.p.b
      have hbn := q1.p.bn hT
      have hct := fun k hk => q1.p.cmt (k := k) hk
      unfold sWhole
      rw [c1', decide_eq_true (by show (z : Int) ≥ 0; omega)]
      show (true && (S.b == (z : Int) && true)) = _
      rw [Bool.true_and, Bool.and_true, Bool.eq_iff_iff, beq_iff_eq, beq_iff_eq]
      simp only at hB hbn hct
      constructor
      · intro g
        by_cases ha0 : a = 0
        · exact ha0
        · by_cases hb0 : 0 < S.b
          · have := (hcmt 0).1 (hct 0 (by omega))
            omega
          · omega
      · intro g
        have hb1 : S.b ≤ z := q1.b
        by_cases hb2 : S.b = z
        · exact hb2
        · have : (cmJ (List.replicate 512 false) a s.length)[S.b.toNat]? = some true := (hcmt _).2 (by omega)
          rw [this] at hbn
          cases hbn
    have rn : Rr wn := tiny_rr _ (by decide) (by decide) (by decide) (by decide) (by decide)
    have hl := ok_len hok (by show rHeld S < _; omega)
    have hl7 : S.p.length < 700000 := by
      have h2 := len_sumD (l := S.p) (fun y hy => (hok.p y hy).1)
      have h3 := rHeld_def S
      omega
    have rs : Rr ⟨S, (z : Int)⟩ := ⟨ok_rb hok (by show rHeld S < _; omega), by show -9223372036854775808 ≤ (z : Int) ∧ (z : Int) < 9223372036854775808; omega⟩
    have c1 := put9 rn (by decide) a (by omega) s (by rw [show rHeld wn.s = 0 from rfl]; omega) true
    rw [e1] at c1
    have c3 := put9 rs hl7 ((z : Int) + 1) (by omega) [] (by show rHeld S + 0 < _; omega) true
    rw [e3] at c3
    have c4 := put9 rs hl7 a (by omega) s (by show rHeld S + _ < _; omega) true
    rw [e4] at c4
    have c5 := whole15 _ (chk13 rs (by show S.p.length < _; omega))
    rw [e5] at c5
    have c2 := put9 rs hl7 z (by omega) t (by show rHeld S + _ < _; omega) false
    by_cases htt : t = []
    · have e2 : sPut ⟨S, (z : Int)⟩ z t false = (⟨S, (z : Int)⟩, 0, 0) := by
        subst htt
        have hsame : rPut S z [] = (S, 0) := rput_same hok z (by omega) (by omega) [] fun j => by
          have : cvr S z [] j = none := by
            unfold cvr
            split
            · exact bA_none.2 (by unfold pEnd; simp; omega)
            · rfl
          rw [this, Option.or_none]
        unfold sPut
        rw [if_neg (by simp only [List.length_nil]; omega), q1.open_ _ false (by simp only [List.length_nil]; omega) (fun g => by cases g)]
        simp only [Bool.false_eq_true, if_false]
        rw [hsame]
      rw [e2] at c2
      exact onc5y s t h.1 h.2 a (by omega) z hz S hl c1 c2 c3 c4 c5 htt
    · rw [q1.over (by omega) rfl t htt (by omega)] at c2
      exact onc5n' s t h.1 h.2 a (by omega) z hz S hl c1 c2 c3 c4 c5 htt
  · refine onc5n s t _ _ _ rfl rfl fun g => h ?_
    have g1 := of_decide_eq_false g.1
    have g2 := of_decide_eq_false g.2
    omega
end Go.Proofs.Ytfacpafkldmkcaa
