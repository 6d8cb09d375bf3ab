/-
laws 06: awake; what changes. No condition beyond the statements' own.
-/
import Derived.Test.YtfllhedkgeljaaaC06S13
set_option linter.unusedSimpArgs false
set_option linter.unusedVariables false
namespace Go.Proofs.Ytfllhedkgeljaaa.C06
open Sx Go.RowKit

theorem rAdd_len (s : List Iv) (x : Iv) : (rAdd s x).length ≤ 2 * s.length + 1 := by
  unfold rAdd
  split
  · omega
  · have h := fold_len x s ([], false)
    have h' : (pAddF s x).1.length ≤ 2 * s.length := by simpa [pAddF] using h
    unfold pAdd
    split
    · omega
    · have := pPut_len (pAddF s x).1 x
      omega
theorem rCut_len (s : List Iv) (x : Iv) : (rCut s x).length ≤ s.length + 1 := by
  cases hn : nop s x
  · obtain ⟨h1, h2, h3⟩ := nop_no hn
    exact (cut_ok (iChk_iff.1 h3) h1 h2).2.2
  · have e : rCut s x = s := by unfold rCut; rw [if_pos hn]
    rw [e]; omega
theorem rGaps_len (s : List Iv) (x : Iv) : (rGaps s x).length ≤ s.length + 1 := by
  unfold rGaps
  cases hn : nop s x
  · rw [if_neg (by simp)]
    obtain ⟨h1, h2, h3⟩ := nop_no hn
    have ok := iChk_iff.1 h3
    have := (gaps_fold (s := s) (fun y hy => ok_may ok hy) (one_ok h1 h2)).2.2
    simp only [List.length_cons, List.length_nil] at this
    omega
  · rw [if_pos rfl]; simp
theorem rMeet_len (a b : List Iv) : (rMeet a b).length ≤ a.length * b.length := by
  unfold rMeet
  split
  · simp
  · have := pMeet_len b a []
    simp only [List.length_nil] at this
    show (a.foldl (fun m x => b.foldl (stM x) m) []).length ≤ _
    omega
def ws : List Iv := [(1, 5)]
def wt : List Iv := [(1, 2), (4, 5)]
def wg : List Iv := [(0, 1), (2, 4), (5, 9)]
end Go.Proofs.Ytfllhedkgeljaaa.C06
