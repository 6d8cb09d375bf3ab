/-
laws 12: awake; what is taken and told. No condition beyond the statements' own.
-/
import Derived.Test.YtfacpafkldmkcaaC12S17
set_option linter.unusedSimpArgs false
set_option linter.unusedVariables false
namespace Go.Proofs.Ytfacpafkldmkcaa.C12
open Sx Go.RowKit

def w0 : Rq := ⟨0, [], []⟩
def wa : Rq := ⟨0, [], [⟨2, [99, 100]⟩]⟩
def wb : Rq := ⟨4, [97, 98, 99, 100], []⟩
def wc : Rq := ⟨4, [100], []⟩
def wz : Rq := ⟨0, [], [⟨0, []⟩]⟩
theorem small_rb (s : Rq) (h : decide (s.b = 0 ∨ s.b = 4) = true) (h2 : s.r.length < 10) (h3 : s.p.length < 10) (h4 : ∀ x ∈ s.p, (0 ≤ x.a ∧ x.a ≤ 4) ∧ x.d.length < 10) : Rb s := by
  have h := of_decide_eq_true h
  exact ⟨by omega, by omega, by omega, fun x hx => by have := h4 x hx; exact ⟨by omega, by omega⟩⟩
end Go.Proofs.Ytfacpafkldmkcaa.C12
