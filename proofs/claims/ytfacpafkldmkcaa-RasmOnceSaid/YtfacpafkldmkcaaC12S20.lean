/-
laws 12: what is ready is read in parts. No condition beyond the statement's own.
-/
import Derived.Test.YtfacpafkldmkcaaC12S19
set_option linter.unusedSimpArgs false
set_option linter.unusedVariables false
namespace Go.Proofs.Ytfacpafkldmkcaa.C12
open Sx Go.RowKit

theorem flat_ok {n : Nat} {r : List UInt8} (hn : n ≤ 1000) (hr : r.length ≤ n) : Ok ⟨n, r, []⟩ :=
  ⟨by simp only; omega, trivial, fun y hy => by cases hy⟩
theorem flat_lim {n : Nat} {r : List UInt8} (hn : n ≤ 1000) : rLim ⟨n, r, []⟩ = (n : Int) - r.length + 4096 := by
  unfold rLim; simp only; omega
theorem put_all (s : List UInt8) (hs : s.length ≤ 200) : rPut w0 0 s = ((⟨(s.length : Int), s, []⟩ : Rq), (s.length : Int)) := by
  have h0 : Ok w0 := flat_ok (n := 0) (by omega) (by simp)
  have hz : rChk w0 = 0 := ok_iff.2 h0
  have hl : rLim w0 = 4096 := by decide +kernel
  unfold rPut
  rw [if_neg (by omega), if_neg (by omega)]
  have hc : rCut w0 0 s = ⟨0, s⟩ := by
    unfold rCut
    rw [if_neg (by show ¬ (0 : Int) < 0; omega), hl]
    rw [List.take_of_length_le (by omega)]
  rw [hc]
  by_cases he : s = []
  · rw [if_pos he]; subst he; rfl
  · rw [if_neg he]
    show (rTop w0 (jn [] ⟨0, s⟩), _) = _
    rw [jn_nil, rTop_y rfl]
    have e1 : pEnd ⟨0, s⟩ = (s.length : Int) := by unfold pEnd; simp
    rw [e1]
    show ((⟨(s.length : Int), [] ++ s, []⟩ : Rq), ((rHeld ⟨(s.length : Int), [] ++ s, []⟩ : Int) - rHeld w0)) = _
    rw [List.nil_append, rHeld_def]
    show ((⟨(s.length : Int), s, []⟩ : Rq), ((((s.length + 0 : Nat)) : Int) - 0)) = _
    simp
theorem read_flat {n k : Nat} {r : List UInt8} (hn : n ≤ 1000) (hr : r.length ≤ n) : rRead ⟨n, r, []⟩ k = ((⟨n, r.drop k, []⟩ : Rq), r.take k) := by
  unfold rRead
  have hz := ok_iff.2 (flat_ok hn hr)
  by_cases hk : k = 0
  · subst hk
    rw [if_pos (.inr (by omega))]; rfl
  · rw [if_neg (by omega)]; rfl
theorem put_over {n : Nat} {r : List UInt8} (hn : n ≤ 200) (hr : r.length ≤ n) (lim : Int) (hl : rLim ⟨n, r, []⟩ = lim) : rPut ⟨n, r, []⟩ lim [120] = ((⟨n, r, []⟩ : Rq), (0 : Int)) := by
  unfold rPut
  split
  · rfl
  · rw [if_pos (by omega)]
theorem put_last {n : Nat} {r : List UInt8} (hn : n ≤ 200) (hr : r.length ≤ n) (lim : Int) (hl : rLim ⟨n, r, []⟩ = lim) : rPut ⟨n, r, []⟩ (lim - 1) [120, 121] = ((⟨n, r, [⟨lim - 1, [120]⟩]⟩ : Rq), (1 : Int)) := by
  have hz := ok_iff.2 (flat_ok (n := n) (by omega) hr)
  have hf := flat_lim (n := n) (r := r) (by omega)
  rw [hl] at hf
  unfold rPut
  rw [hl, if_neg (by omega), if_neg (by omega)]
  have hc : rCut ⟨n, r, []⟩ (lim - 1) [120, 121] = ⟨lim - 1, [120]⟩ := by
    unfold rCut
    rw [hl, if_neg (by show ¬ lim - 1 < (n : Int); omega), show lim - (lim - 1) = 1 by omega]
    rfl
  rw [hc, if_neg (by simp)]
  show (rTop _ (jn [] _), _) = _
  rw [jn_nil, rTop_n (by show ¬ lim - 1 = (n : Int); omega)]
  refine Prod.ext rfl ?_
  rw [rHeld_def, rHeld_def]
  show ((r.length + 1 : Nat) : Int) - ((r.length + 0 : Nat) : Int) = 1
  omega
end Go.Proofs.Ytfacpafkldmkcaa.C12
