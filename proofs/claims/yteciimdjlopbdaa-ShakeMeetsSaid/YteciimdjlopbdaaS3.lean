/-
laws 13, plain: a flag is there, bit by bit. No program.
-/
import Derived.Test.YteciimdjlopbdaaS2
namespace Go.Proofs.Yteciimdjlopbdaa
open Sx Go.RowKit

theorem bits_and (f k : Nat) (hf : f < 256) (hk : k < 256) : bitsI .and .u8 (f : Int) (k : Int) = ((f &&& k : Nat) : Int) := by
  have hb : IntKind.u8.bits = 8 := rfl
  unfold bitsI
  dsimp only
  rw [IntKind.wrap_u8]
  have h1 : (BitVec.ofInt IntKind.u8.bits (f : Int) &&& BitVec.ofInt IntKind.u8.bits (k : Int)).toNat = f &&& k := by
    rw [BitVec.toNat_and]
    have e1 : (BitVec.ofInt IntKind.u8.bits (f : Int)).toNat = f := by rw [BitVec.ofInt_natCast, BitVec.toNat_ofNat, hb]; omega
    have e2 : (BitVec.ofInt IntKind.u8.bits (k : Int)).toNat = k := by rw [BitVec.ofInt_natCast, BitVec.toNat_ofNat, hb]; omega
    rw [e1, e2]
  rw [h1]
  have := Nat.and_le_left (n := f) (m := k)
  omega
theorem hasB_bits {f k : Nat} (hf : f < 256) (hk : k < 256) : hasB f k = true ↔ ∀ j, j < 8 → ¬(k / 2 ^ j % 2 = 1 ∧ f / 2 ^ j % 2 = 0) := by
  unfold hasB
  rw [bits_and f k hf hk, beq_iff_eq]
  have e : (((f &&& k : Nat) : Int) = (k : Int)) ↔ f &&& k = k := by omega
  rw [e]
  constructor
  · intro h j _ ⟨h1, h2⟩
    have := congrArg (fun n => Nat.testBit n j) h
    rw [Nat.testBit_and, Nat.testBit_eq_decide_div_mod_eq, Nat.testBit_eq_decide_div_mod_eq, h1, h2] at this
    simp at this
  · intro h
    apply Nat.eq_of_testBit_eq
    intro j
    rw [Nat.testBit_and]
    by_cases hj : j < 8
    · have := h j hj
      simp only [Nat.testBit_eq_decide_div_mod_eq]
      by_cases h1 : k / 2 ^ j % 2 = 1
      · have : f / 2 ^ j % 2 = 1 := by omega
        simp [h1, this]
      · simp [h1]
    · have h2 : k < 2 ^ j := Nat.lt_of_lt_of_le hk (by have := Nat.pow_le_pow_right (n := 2) (by omega) (show 8 ≤ j by omega); omega)
      rw [Nat.testBit_lt_two_pow h2]; simp
end Go.Proofs.Yteciimdjlopbdaa
