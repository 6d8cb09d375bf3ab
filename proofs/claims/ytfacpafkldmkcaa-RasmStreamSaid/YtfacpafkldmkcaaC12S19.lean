/-
laws 12: what is taken, and told. No condition beyond the statements' own.
-/
import Derived.Test.YtfacpafkldmkcaaC12S18
set_option linter.unusedSimpArgs false
set_option linter.unusedVariables false
namespace Go.Proofs.Ytfacpafkldmkcaa.C12
open Sx Go.RowKit

theorem rq_of (x0 : D) (s0 : ∃ ds, CK.hasL [.int .i64, .str, .sl true [.int .i64, .str]] ds ∧ (if true = true then x0 = .agg ds else ds = [x0])) : ∃ x : Rq, x0 = rqD x ∧ (-9223372036854775808 ≤ x.b ∧ x.b < 9223372036854775808) ∧ ∀ y ∈ x.p, -9223372036854775808 ≤ y.a ∧ y.a < 9223372036854775808 := by
  obtain ⟨ds, rfl, h0⟩ := ckA s0
  obtain ⟨d1, r1, rfl, g1, h1⟩ := hasL_cons h0
  obtain ⟨v1, rfl, a1, b1⟩ := has_i64 g1
  obtain ⟨d2, r2, rfl, g2, h2⟩ := hasL_cons h1
  obtain ⟨v2, rfl, -⟩ := has_str g2
  obtain ⟨d3, r3, rfl, g3, h3⟩ := hasL_cons h2
  obtain ⟨K, rfl, -, hK⟩ := has_slOf ptD (fun y => -9223372036854775808 ≤ y.a ∧ y.a < 9223372036854775808) g3 (fun y h => by
    obtain ⟨ds, rfl, h0⟩ := ckA h
    obtain ⟨d1, r1, rfl, g1, h1⟩ := hasL_cons h0
    obtain ⟨v1, rfl, a1, b1⟩ := has_i64 g1
    obtain ⟨d2, r2, rfl, g2, h2⟩ := hasL_cons h1
    obtain ⟨v2, rfl, -⟩ := has_str g2
    obtain rfl := hasL_nil h2
    exact ⟨⟨v1, v2⟩, rfl, a1, b1⟩)
  obtain rfl := hasL_nil h3
  exact ⟨⟨v1, v2, K⟩, rfl, ⟨a1, b1⟩, hK⟩
theorem light_of {x : Rq} (h : rLight x = true) : x.r.length ≤ 5000 ∧ x.p.length ≤ 20 ∧ sumD x.p < 300 := by
  have := of_decide_eq_true h
  rw [mnD_sum this.2.2]
  exact this
theorem light_rb {x : Rq} (h : rLight x = true) (hb : -9223372036854775808 ≤ x.b ∧ x.b < 9223372036854775808) (hp : ∀ y ∈ x.p, -9223372036854775808 ≤ y.a ∧ y.a < 9223372036854775808) : Rb x := by
  have hl := light_of h
  exact ⟨hb, by omega, by omega, fun y hy => ⟨hp y hy, by have := sumD_mem hy; omega⟩⟩
theorem put_len {s : Rq} {k : Int} {d : List UInt8} (h1 : rHeld s + d.length < 700000) (hl : s.p.length < 700000) : (rPut s k d).1.p.length < 800000 := by
  by_cases hno : k < 0 ∨ k > 1099511627776 ∨ rChk s ≠ 0
  · unfold rPut
    rw [if_pos hno]
    show s.p.length < _
    omega
  · have h := ok_iff.1 (show rChk s = 0 by omega)
    obtain ⟨i1, -, -, i4⟩ := rPut_ok h k (by omega) (by omega) d
    have e := put_same h k (by omega) (by omega) d
    obtain ⟨-, -, -, -, -, -, j7⟩ := dJ_ok h k d d.length (Nat.le_refl _)
    rw [List.take_length] at j7
    have e2 : (rPut s k d).2 ≤ d.length := by rw [e]; exact j7
    exact ok_len i1 (by omega)
/-! ### Takes -/
end Go.Proofs.Ytfacpafkldmkcaa.C12
