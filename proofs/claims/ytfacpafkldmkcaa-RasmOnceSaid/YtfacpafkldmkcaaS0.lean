/-
laws 24, plain: a stream put together. No program.
-/
import Derived.Test.YtfacpafkldmkcaaC12S22
set_option linter.unusedSimpArgs false
set_option linter.unusedVariables false
namespace Go.Proofs.Ytfacpafkldmkcaa
open Sx Go.RowKit C12

structure Rs where
  s : Rq
  e : Int
  deriving DecidableEq
def rsD (x : Rs) : D := .agg [.int .i64 x.s.b, .str x.s.r, .sl (x.s.p.map ptD), .int .i64 x.e]
def hiP (b : Int) (l : List Pt) : Int := match l.getLast? with | some y => pEnd y | none => b
def sHigh (x : Rs) : Int := hiP x.s.b x.s.p
def sEnd (x : Rs) : Bool := decide (x.e ≠ -1 ∧ (x.e < sHigh x ∨ x.e > 1099511627776))
def sChk (x : Rs) : Int := if rChk x.s ≠ 0 then rChk x.s else if sEnd x = true then 8 else 0
def sClosed (x : Rs) (to : Int) (fin : Bool) : Bool := if x.e ≥ 0 then decide (to > x.e) || (fin && decide (to < x.e)) else fin && decide (to < sHigh x)
def sPut (x : Rs) (k : Int) (d : List UInt8) (fin : Bool) : Rs × Int × Int :=
  if k < 0 ∨ k > 1099511627776 - d.length ∨ sChk x ≠ 0 then (x, 0, 2) else if sClosed x (k + d.length) fin = true then (x, 0, 5)
  else (⟨(rPut x.s k d).1, if fin = true then k + d.length else x.e⟩, (rPut x.s k d).2, 0)
def sWhole (x : Rs) : Bool := decide (x.e ≥ 0) && (x.s.b == x.e && (sChk x == 0))
def sEnded (x : Rs) : Bool := (x.s.r == []) && sWhole x
def sRead (x : Rs) (n : Int) : Rs × List UInt8 × Bool := (⟨(rRead x.s n).1, x.e⟩, (rRead x.s n).2, sEnded ⟨(rRead x.s n).1, x.e⟩)
theorem hiP_snoc (b : Int) (l : List Pt) (y : Pt) : hiP b (l ++ [y]) = pEnd y := by unfold hiP; rw [List.getLast?_append]; rfl
/-- In reach. -/
structure Rr (x : Rs) : Prop where
  s : Rb x.s
  e : -9223372036854775808 ≤ x.e ∧ x.e < 9223372036854775808
theorem srt_hi : ∀ {l : List Pt} {e : Int}, Srt e l → (∀ y ∈ l, y.d ≠ []) → (∀ k, hiP e l ≤ k → dP l k = none) ∧ e ≤ hiP e l ∧ (l ≠ [] → ∃ c, dP l (hiP e l - 1) = some c)
  | [], e, _, _ => ⟨fun _ _ => rfl, Int.le_refl _, fun h => absurd rfl h⟩
  | x :: l, e, hs, hd => by
    have hx := pEnd_gt (hd x (List.mem_cons_self ..))
    obtain ⟨i1, i2, i3⟩ := srt_hi hs.2 (fun y hy => hd y (List.mem_cons_of_mem _ hy))
    have e0 : hiP e (x :: l) = hiP (pEnd x) l := by
      rcases List.eq_nil_or_concat l with rfl | ⟨m, y, rfl⟩
      · rfl
      · rw [List.concat_eq_append, ← List.cons_append, hiP_snoc, hiP_snoc]
    have hs1 := hs.1
    rw [e0]
    refine ⟨fun k hk => ?_, by omega, fun _ => ?_⟩
    · rw [dP, bA_none.2 (.inr (by omega)), Option.none_or]
      exact i1 k hk
    · by_cases hl : l = []
      · subst hl
        obtain ⟨c, hc⟩ := bA_some (x := x) (k := pEnd x - 1) (by omega) (by omega)
        exact ⟨c, by show (bA x (pEnd x - 1)).or none = _; rw [hc]; rfl⟩
      · obtain ⟨c, hc⟩ := i3 hl
        rw [dP, hc]
        cases bA x (hiP (pEnd x) l - 1) <;> simp
theorem hi_le {s : Rq} (h : Ok s) : s.b ≤ hiP s.b s.p ∧ hiP s.b s.p ≤ rLim s ∨ s.p = [] := by
  rcases List.eq_nil_or_concat s.p with hp | ⟨m, y, hp⟩
  · exact .inr hp
  · left
    have h1 := srt_hi h.srt (fun y hy => (h.p y hy).1)
    refine ⟨h1.2.1, ?_⟩
    rw [hp, List.concat_eq_append, hiP_snoc]
    exact (h.p y (by rw [hp]; simp)).2
theorem hi_bd {s : Rq} (h : Ok s) : 0 ≤ hiP s.b s.p ∧ hiP s.b s.p ≤ 1099511627776 := by
  have hb := h.b
  have hl := rLim_le s
  rcases hi_le h with g | g
  · omega
  · rw [g]; exact ⟨hb.1, hb.2.1⟩
theorem sChk_zero {x : Rs} (h : sChk x = 0) : Ok x.s ∧ (x.e = -1 ∨ (sHigh x ≤ x.e ∧ x.e ≤ 1099511627776)) := by
  unfold sChk at h
  by_cases h1 : rChk x.s ≠ 0
  · rw [if_pos h1] at h; exact absurd h h1
  · rw [if_neg h1] at h
    refine ⟨ok_iff.1 (by omega), ?_⟩
    by_cases h2 : sEnd x = true
    · rw [if_pos h2] at h; cases h
    · have := of_decide_eq_false (Bool.eq_false_iff.2 h2)
      omega
theorem sChk_of {x : Rs} (h : Ok x.s) (g : x.e = -1 ∨ (sHigh x ≤ x.e ∧ x.e ≤ 1099511627776)) : sChk x = 0 := by
  unfold sChk
  rw [if_neg (by rw [ok_iff.2 h]; simp), if_neg]
  have : sEnd x = false := decide_eq_false (by omega)
  rw [this]; simp
end Go.Proofs.Ytfacpafkldmkcaa
