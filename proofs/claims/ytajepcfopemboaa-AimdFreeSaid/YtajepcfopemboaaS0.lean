/-
laws 10, plain: how much may be under way. No program.
-/
import Derived.Test.YtajepcfopemboaaSxt
namespace Go.Proofs.Ytajepcfopemboaa
open Sx Go.RowKit

structure Aim where
  w : Int
  t : Int
  p : Int
structure Act where
  k : Int
  n : Int
def aOk (x : Aim) : Prop := 48 ≤ x.w ∧ x.w ≤ 4096 ∧ 48 ≤ x.t ∧ x.t ≤ 4096 ∧ 0 ≤ x.p ∧ x.p < x.w
instance (x : Aim) : Decidable (aOk x) := inferInstanceAs (Decidable (_ ∧ _))
def aCheck (x : Aim) : Int := if aOk x then 0 else 8
def aGrow (x : Aim) (n : Int) : Aim := ⟨min (x.w + n) 4096, x.t, x.p⟩
def aAcked (x : Aim) (n : Int) : Aim :=
  if 1 ≤ n ∧ n ≤ 4096 ∧ aCheck x = 0 then
    (if x.w < x.t then aGrow x (min n 48) else if x.p + n < x.w then ⟨x.w, x.t, x.p + n⟩ else aGrow ⟨x.w, x.t, 0⟩ 48)
  else x
def aHalf (x : Aim) : Aim := ⟨max (x.w / 2) 96, max (x.w / 2) 96, 0⟩
def aLost (x : Aim) : Aim := if aCheck x = 0 then aHalf x else x
def aExpired (x : Aim) : Aim := if aCheck x = 0 then ⟨48, max (x.w / 2) 96, 0⟩ else x
def aFree (x : Aim) (f : Int) : Int := if aCheck x = 0 then max (x.w - max f 0) 0 else 0
def aStep (x : Aim) (a : Act) : Aim := if a.k % 3 = 0 then aAcked x a.n else if a.k % 3 = 1 then aLost x else aExpired x
def aRun (x : Aim) (l : List Act) : Aim := l.foldl aStep x
def aNew : Aim := ⟨96, 1024, 0⟩
def aD (x : Aim) : D := .agg [.int .i64 x.w, .int .i64 x.t, .int .i64 x.p]
def actD (a : Act) : D := .agg [.int .u8 a.k, .int .i64 a.n]
def actOf : D → Act
  | .agg [.int _ k, .int _ n] => ⟨k, n⟩
  | _ => ⟨0, 0⟩
theorem map_act : ∀ l : List Act, (l.map actD).map actOf = l
  | [] => rfl
  | a :: r => by simp only [List.map_cons, map_act r]; rfl

theorem check_iff {x : Aim} : aCheck x = 0 ↔ aOk x := by
  unfold aCheck
  by_cases h : aOk x
  · rw [if_pos h]; exact ⟨fun _ => h, fun _ => rfl⟩
  · rw [if_neg h]; exact ⟨fun h => by omega, fun g => absurd g h⟩
theorem check_8 {x : Aim} (h : ¬ aOk x) : aCheck x = 8 := if_neg h
theorem check_wrap (x : Aim) : aCheck x = 0 ∨ aCheck x = 8 := by unfold aCheck; split <;> simp
theorem acked_no {x : Aim} {n : Int} (h : ¬ (1 ≤ n ∧ n ≤ 4096 ∧ aCheck x = 0)) : aAcked x n = x := if_neg h
theorem acked_fast {x : Aim} {n : Int} (h : 1 ≤ n ∧ n ≤ 4096 ∧ aCheck x = 0) (g : x.w < x.t) : aAcked x n = aGrow x (min n 48) := by unfold aAcked; rw [if_pos h, if_pos g]
theorem acked_part {x : Aim} {n : Int} (h : 1 ≤ n ∧ n ≤ 4096 ∧ aCheck x = 0) (g : ¬ x.w < x.t) (g2 : x.p + n < x.w) : aAcked x n = ⟨x.w, x.t, x.p + n⟩ := by unfold aAcked; rw [if_pos h, if_neg g, if_pos g2]
theorem acked_full {x : Aim} {n : Int} (h : 1 ≤ n ∧ n ≤ 4096 ∧ aCheck x = 0) (g : ¬ x.w < x.t) (g2 : ¬ x.p + n < x.w) : aAcked x n = ⟨min (x.w + 48) 4096, x.t, 0⟩ := by unfold aAcked; rw [if_pos h, if_neg g, if_neg g2]; rfl
theorem lost_yes {x : Aim} (h : aCheck x = 0) : aLost x = ⟨max (x.w / 2) 96, max (x.w / 2) 96, 0⟩ := if_pos h
theorem lost_no {x : Aim} (h : ¬ aCheck x = 0) : aLost x = x := if_neg h
theorem exp_yes {x : Aim} (h : aCheck x = 0) : aExpired x = ⟨48, max (x.w / 2) 96, 0⟩ := if_pos h
theorem exp_no {x : Aim} (h : ¬ aCheck x = 0) : aExpired x = x := if_neg h
theorem free_yes {x : Aim} {f : Int} (h : aCheck x = 0) : aFree x f = max (x.w - max f 0) 0 := if_pos h
theorem free_no {x : Aim} {f : Int} (h : ¬ aCheck x = 0) : aFree x f = 0 := if_neg h
theorem step_0 {x : Aim} {a : Act} (h : a.k % 3 = 0) : aStep x a = aAcked x a.n := if_pos h
theorem step_1 {x : Aim} {a : Act} (h : a.k % 3 = 1) : aStep x a = aLost x := by unfold aStep; rw [if_neg (by omega), if_pos h]
theorem step_2 {x : Aim} {a : Act} (h0 : ¬ a.k % 3 = 0) (h : ¬ a.k % 3 = 1) : aStep x a = aExpired x := by unfold aStep; rw [if_neg h0, if_neg h]

theorem acked_is {x : Aim} (n : Int) (h : aOk x) : aOk (aAcked x n) ∧ x.w ≤ (aAcked x n).w ∧ (aAcked x n).w ≤ x.w + 48 := by
  have h' := h
  unfold aOk at h'
  by_cases hn : 1 ≤ n ∧ n ≤ 4096
  · have hc : 1 ≤ n ∧ n ≤ 4096 ∧ aCheck x = 0 := ⟨hn.1, hn.2, check_iff.2 h⟩
    by_cases g : x.w < x.t
    · rw [acked_fast hc g]; unfold aOk aGrow; dsimp only; omega
    · by_cases g2 : x.p + n < x.w
      · rw [acked_part hc g g2]; unfold aOk; dsimp only; omega
      · rw [acked_full hc g g2]; unfold aOk; dsimp only; omega
  · rw [acked_no (fun g => hn ⟨g.1, g.2.1⟩)]; exact ⟨h, by omega, by omega⟩
theorem lost_is {x : Aim} (h : aOk x) : aOk (aLost x) ∧ (aLost x).w ≤ max x.w 96 ∧ (aLost x).w ≤ x.w + 48 := by
  rw [lost_yes (check_iff.2 h)]; unfold aOk at *; dsimp only; omega
theorem exp_is {x : Aim} (h : aOk x) : aOk (aExpired x) ∧ (aExpired x).w ≤ x.w := by
  rw [exp_yes (check_iff.2 h)]; unfold aOk at *; dsimp only; omega
theorem step_is {x : Aim} (a : Act) (h : aOk x) : aOk (aStep x a) ∧ (aStep x a).w ≤ x.w + 48 ∧ (a.k % 3 ≠ 0 → (aStep x a).w ≤ max x.w 96) ∧ (a.k % 3 = 0 → x.w ≤ (aStep x a).w) := by
  by_cases h0 : a.k % 3 = 0
  · rw [step_0 h0]
    have := acked_is a.n h
    exact ⟨this.1, this.2.2, fun g => absurd h0 g, fun _ => this.2.1⟩
  · by_cases h1 : a.k % 3 = 1
    · rw [step_1 h1]
      have := lost_is h
      exact ⟨this.1, this.2.2, fun _ => this.2.1, fun g => absurd g h0⟩
    · rw [step_2 h0 h1]
      have := exp_is h
      exact ⟨this.1, by omega, fun _ => by omega, fun g => absurd g h0⟩
theorem run_is {x : Aim} (h : aOk x) : ∀ l : List Act, aOk (aRun x l) := by
  intro l
  induction l generalizing x with
  | nil => exact h
  | cons a r ih => exact ih (step_is a h).1
theorem new_is : aOk aNew := by unfold aOk aNew; decide

/-! ### All comes -/
def ackN (x : Aim) : Nat → Aim
  | 0 => x
  | n + 1 => aAcked (ackN x n) 48
def goes (w : Int) : Nat := ((w + 47) / 48).toNat
def inner (x : Aim) : Aim := ackN x (goes x.w)
def outer (x : Aim) : Nat → Aim
  | 0 => x
  | n + 1 => inner (outer x n)
def chk : Nat → Aim → Bool
  | 0, x => decide (x.w = 4096)
  | n + 1, x => decide (x.w < 4096) && decide (x.w < (inner x).w) && chk n (inner x)
theorem outer_shift (x : Aim) : ∀ n, outer x (n + 1) = outer (inner x) n
  | 0 => rfl
  | n + 1 => by show inner (outer x (n + 1)) = inner (outer (inner x) n); rw [outer_shift x n]
theorem chk_is : ∀ (n : Nat) (x : Aim), chk n x = true → (outer x n).w = 4096 ∧ ∀ j, j < n → (outer x j).w < 4096 ∧ (outer x j).w < (outer x (j + 1)).w
  | 0, x, h => ⟨by simp only [chk, decide_eq_true_eq] at h; exact h, fun j hj => by omega⟩
  | n + 1, x, h => by
    simp only [chk, Bool.and_eq_true, decide_eq_true_eq] at h
    obtain ⟨⟨h1, h2⟩, h3⟩ := h
    obtain ⟨k1, k2⟩ := chk_is n (inner x) h3
    refine ⟨by rw [outer_shift]; exact k1, fun j hj => ?_⟩
    cases j with
    | zero => exact ⟨h1, h2⟩
    | succ j => rw [outer_shift, outer_shift]; exact k2 j (by omega)
def startOf (kind : Int) : Aim := aStep aNew ⟨kind, 0⟩
def times (kind : Int) : Nat := if kind % 3 = 0 then 68 else if kind % 3 = 1 then 84 else 85
end Go.Proofs.Ytajepcfopemboaa
