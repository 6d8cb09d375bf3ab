/-
laws 12: the places that came; rows of places.
-/
import Derived.Test.YtfacpafkldmkcaaC12S5
set_option linter.unusedSimpArgs false
set_option linter.unusedVariables false
namespace Go.Proofs.Ytfacpafkldmkcaa.C12
open Sx Go.RowKit

theorem rBad_mem {lim : Int} (hl : lim ≤ 1099511627776) : ∀ {l : List Pt} {e : Int}, 0 ≤ e → rBad lim e l = false → ∀ x ∈ l, (0 < x.a ∧ pEnd x ≤ lim ∧ x.d ≠ []) ∧ IntKind.i64.wrap (pEnd x) = pEnd x
  | [], e, e0, h, x, hx => by cases hx
  | y :: r, e, e0, h, x, hx => by
    unfold rBad at h
    rw [Bool.or_eq_false_iff] at h
    have hy := pBad_end e0 h.1
    rcases List.mem_cons.1 hx with rfl | hx
    · exact ⟨⟨by omega, hy.2.1, hy.2.2.2⟩, by rw [IntKind.wrap_i64]; omega⟩
    · exact rBad_mem hl hy.1 h.2 x hx
theorem chk_zero {s : Rq} (h : rChk s = 0) : (0 ≤ s.b ∧ s.b ≤ 1099511627776 ∧ s.r.length ≤ 4096 ∧ (s.r.length : Int) ≤ s.b) ∧ rBad (rLim s) s.b s.p = false := by
  unfold rChk at h
  cases ho : rOut s
  · rw [ho, if_neg (by simp)] at h
    refine ⟨rOut_no ho, ?_⟩
    cases hq : rBad (rLim s) s.b s.p
    · rfl
    · rw [hq] at h; simp at h
  · rw [ho] at h; simp at h
end Go.Proofs.Ytfacpafkldmkcaa.C12
