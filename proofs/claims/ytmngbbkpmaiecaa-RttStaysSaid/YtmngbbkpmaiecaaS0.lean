/-
laws 08, plain: how long answers take. No program.
-/
import Derived.Test.YtmngbbkpmaiecaaSxt
namespace Go.Proofs.Ytmngbbkpmaiecaa
open Sx Go.RowKit

structure Rtt where
  s : Int
  v : Int
  k : Bool
  h : Int
def rOk (x : Rtt) : Prop := 0 ≤ x.s ∧ x.s ≤ 1048576 ∧ 0 ≤ x.v ∧ x.v ≤ 1048576 ∧ 0 ≤ x.h ∧ x.h ≤ 6
instance (x : Rtt) : Decidable (rOk x) := inferInstanceAs (Decidable (_ ∧ _))
def rCheck (x : Rtt) : Int := if rOk x then (if x.k = false ∧ ¬ (x.s = 0 ∧ x.v = 0) then 4 else 0) else 8
def rSample (x : Rtt) (n : Int) : Rtt :=
  if 0 ≤ n ∧ n ≤ 65536 ∧ rCheck x = 0 then
    (if x.k = false then ⟨8 * n, 2 * n, true, 0⟩ else ⟨max (x.s + (n - x.s / 8)) 0, x.v + (max (n - x.s / 8) (-(n - x.s / 8)) - x.v / 4), x.k, 0⟩)
  else x
def rExpire (x : Rtt) : Rtt := if rCheck x = 0 ∧ x.h < 6 then ⟨x.s, x.v, x.k, x.h + 1⟩ else x
def rWait (x : Rtt) : Int := if rCheck x = 0 then min ((if x.k = true then max (x.s / 8 + x.v) 2 else 8) * 2 ^ x.h.toNat) 64 else 8
def rStep (x : Rtt) (n : Int) : Rtt := if n < 0 then rExpire x else rSample x n
def rRun (x : Rtt) (l : List Int) : Rtt := l.foldl rStep x
def rNew : Rtt := ⟨0, 0, false, 0⟩
def rD (x : Rtt) : D := .agg [.int .i64 x.s, .int .i64 x.v, .bool x.k, .int .i64 x.h]

theorem check_ok {x : Rtt} : rCheck x = 0 ↔ rOk x ∧ (x.k = false → x.s = 0 ∧ x.v = 0) := by
  unfold rCheck
  by_cases h1 : rOk x
  · rw [if_pos h1]
    by_cases h2 : x.k = false ∧ ¬ (x.s = 0 ∧ x.v = 0)
    · rw [if_pos h2]
      constructor
      · intro h; omega
      · rintro ⟨-, h⟩; exact absurd (h h2.1) h2.2
    · rw [if_neg h2]
      refine ⟨fun _ => ⟨h1, fun h => ?_⟩, fun _ => rfl⟩
      by_cases h3 : x.s = 0 ∧ x.v = 0
      · exact h3
      · exact absurd ⟨h, h3⟩ h2
  · rw [if_neg h1]
    constructor
    · intro h; omega
    · rintro ⟨h, -⟩; exact absurd h h1
theorem check_8 {x : Rtt} (h : ¬ rOk x) : rCheck x = 8 := if_neg h
theorem check_4 {x : Rtt} (h : rOk x) (h2 : x.k = false) (h3 : ¬ (x.s = 0 ∧ x.v = 0)) : rCheck x = 4 := by unfold rCheck; rw [if_pos h, if_pos ⟨h2, h3⟩]
theorem sample_no {x : Rtt} {n : Int} (h : ¬ (0 ≤ n ∧ n ≤ 65536 ∧ rCheck x = 0)) : rSample x n = x := if_neg h
theorem sample_new {x : Rtt} {n : Int} (h : 0 ≤ n ∧ n ≤ 65536 ∧ rCheck x = 0) (hk : x.k = false) : rSample x n = ⟨8 * n, 2 * n, true, 0⟩ := by unfold rSample; rw [if_pos h, if_pos hk]
theorem sample_more {x : Rtt} {n : Int} (h : 0 ≤ n ∧ n ≤ 65536 ∧ rCheck x = 0) (hk : x.k = true) : rSample x n = ⟨max (x.s + (n - x.s / 8)) 0, x.v + (max (n - x.s / 8) (-(n - x.s / 8)) - x.v / 4), true, 0⟩ := by
  unfold rSample; rw [if_pos h, if_neg (by simp [hk]), hk]
theorem expire_yes {x : Rtt} (h : rCheck x = 0) (h6 : x.h < 6) : rExpire x = ⟨x.s, x.v, x.k, x.h + 1⟩ := if_pos ⟨h, h6⟩
theorem expire_no {x : Rtt} (h : ¬ (rCheck x = 0 ∧ x.h < 6)) : rExpire x = x := if_neg h
theorem wait_no {x : Rtt} (h : ¬ rCheck x = 0) : rWait x = 8 := if_neg h
def rBase (x : Rtt) : Int := if x.k = true then max (x.s / 8 + x.v) 2 else 8
theorem wait_yes {x : Rtt} (h : rCheck x = 0) : rWait x = min (rBase x * 2 ^ x.h.toNat) 64 := if_pos h
theorem base_bd {x : Rtt} (h : rCheck x = 0) : 2 ≤ rBase x ∧ rBase x ≤ 1179648 := by
  have := (check_ok.1 h).1
  unfold rOk at this
  unfold rBase
  split <;> omega
theorem pow_bd {h : Int} (h0 : 0 ≤ h) (h6 : h ≤ 6) : 1 ≤ (2 : Int) ^ h.toNat ∧ (2 : Int) ^ h.toNat ≤ 64 := by
  obtain ⟨m, rfl⟩ := Int.eq_ofNat_of_zero_le h0
  have : m = 0 ∨ m = 1 ∨ m = 2 ∨ m = 3 ∨ m = 4 ∨ m = 5 ∨ m = 6 := by omega
  rcases this with rfl | rfl | rfl | rfl | rfl | rfl | rfl <;> decide
theorem mul_bd {a b : Int} (a0 : 2 ≤ a) (a1 : a ≤ 1179648) (b0 : 1 ≤ b) (b1 : b ≤ 64) : 2 ≤ a * b ∧ a * b ≤ 75497472 := by
  constructor
  · have := Int.mul_le_mul a0 b0 (by omega) (by omega); omega
  · have := Int.mul_le_mul a1 b1 (by omega) (by omega); omega
theorem wait_bd (x : Rtt) : 2 ≤ rWait x ∧ rWait x ≤ 64 := by
  by_cases h : rCheck x = 0
  · rw [wait_yes h]
    have hb := base_bd h
    have ho := (check_ok.1 h).1
    unfold rOk at ho
    have hp := pow_bd ho.2.2.2.2.1 ho.2.2.2.2.2
    have := mul_bd hb.1 hb.2 hp.1 hp.2
    omega
  · rw [wait_no h]; omega
theorem sample_ok {x : Rtt} {n : Int} (h : rCheck x = 0) : rCheck (rSample x n) = 0 := by
  by_cases hn : 0 ≤ n ∧ n ≤ 65536 ∧ rCheck x = 0
  · have ho := (check_ok.1 h).1
    unfold rOk at ho
    cases hk : x.k
    · rw [sample_new hn hk, check_ok]
      refine ⟨?_, by simp⟩
      unfold rOk; dsimp only; omega
    · rw [sample_more hn hk, check_ok]
      refine ⟨?_, by simp⟩
      unfold rOk; dsimp only; omega
  · rw [sample_no hn]; exact h
theorem expire_ok {x : Rtt} (h : rCheck x = 0) : rCheck (rExpire x) = 0 := by
  by_cases h6 : x.h < 6
  · rw [expire_yes h h6]
    have ho := check_ok.1 h
    rw [check_ok]
    unfold rOk at ho ⊢
    dsimp only
    exact ⟨by omega, ho.2⟩
  · rw [expire_no (by omega)]; exact h
theorem step_ok {x : Rtt} {n : Int} (h : rCheck x = 0) : rCheck (rStep x n) = 0 := by
  unfold rStep; split
  · exact expire_ok h
  · exact sample_ok h
theorem run_ok8 {x : Rtt} (h : rCheck x = 0) : ∀ l : List Int, rCheck (rRun x l) = 0 := by
  intro l
  induction l generalizing x with
  | nil => exact h
  | cons y r ih => exact ih (step_ok h)
theorem sample_known {x : Rtt} {n : Int} (h : rCheck x = 0) (h0 : 0 ≤ n) (h1 : n ≤ 65536) : (rSample x n).k = true ∧ (rSample x n).h = 0 := by
  cases hk : x.k
  · rw [sample_new ⟨h0, h1, h⟩ hk]; exact ⟨rfl, rfl⟩
  · rw [sample_more ⟨h0, h1, h⟩ hk]; exact ⟨rfl, rfl⟩
theorem base_expire (x : Rtt) : rBase (rExpire x) = rBase x := by
  unfold rExpire; split <;> rfl
theorem pow_succ' {h : Int} (h0 : 0 ≤ h) : (2 : Int) ^ (h + 1).toNat = 2 ^ h.toNat * 2 := by
  rw [show (h + 1).toNat = h.toNat + 1 by omega, Int.pow_succ]
theorem expire_grows {x : Rtt} (h : rCheck x = 0) : rWait x ≤ rWait (rExpire x) := by
  by_cases h6 : x.h < 6
  · have hb := base_bd h
    have ho := (check_ok.1 h).1
    unfold rOk at ho
    have hp := pow_bd ho.2.2.2.2.1 ho.2.2.2.2.2
    have hm := mul_bd hb.1 hb.2 hp.1 hp.2
    rw [wait_yes h, wait_yes (expire_ok h), base_expire, expire_yes h h6]
    show _ ≤ min (rBase x * 2 ^ (x.h + 1).toNat) 64
    rw [pow_succ' ho.2.2.2.2.1, ← Int.mul_assoc]
    omega
  · rw [expire_no (by omega)]; exact Int.le_refl _
def rIter : Nat → Rtt → Rtt
  | 0, x => x
  | n + 1, x => rExpire (rIter n x)
theorem iter_ok {x : Rtt} (h : rCheck x = 0) : ∀ n, rCheck (rIter n x) = 0
  | 0 => h
  | n + 1 => expire_ok (iter_ok h n)
theorem iter_h {x : Rtt} (h : rCheck x = 0) (hh : x.h = 0) : ∀ n : Nat, (rIter n x).h = min (n : Int) 6 ∧ rBase (rIter n x) = rBase x
  | 0 => ⟨by show x.h = _; omega, rfl⟩
  | n + 1 => by
    obtain ⟨h1, h2⟩ := iter_h h hh n
    have hok := iter_ok h n
    show (rExpire (rIter n x)).h = _ ∧ rBase (rExpire (rIter n x)) = _
    rw [base_expire, h2]
    refine ⟨?_, rfl⟩
    by_cases h6 : (rIter n x).h < 6
    · rw [expire_yes hok h6]; dsimp only; omega
    · rw [expire_no (by omega)]; omega
theorem iter_end {x : Rtt} (h : rCheck x = 0) (hh : x.h = 0) {n : Nat} (hn : 6 ≤ n) : rWait (rIter n x) = 64 := by
  obtain ⟨h1, h2⟩ := iter_h h hh n
  rw [wait_yes (iter_ok h n), h1, h2, show min (n : Int) 6 = 6 by omega]
  have := base_bd h
  show min (rBase x * 64) 64 = 64
  omega
/-- All times the same. -/
def rSame (t : Int) : Nat → Rtt
  | 0 => rNew
  | n + 1 => rSample (rSame t n) t
theorem same_ok (t : Int) : ∀ n, rCheck (rSame t n) = 0
  | 0 => (rfl : rCheck rNew = 0)
  | n + 1 => sample_ok (same_ok t n)
theorem same_is {t : Int} (h0 : 0 ≤ t) (h1 : t ≤ 50) : ∀ n : Nat, (rSame t (n + 1)).s = 8 * t ∧ (rSame t (n + 1)).k = true ∧ (rSame t (n + 1)).h = 0 ∧ 0 ≤ (rSame t (n + 1)).v ∧ (rSame t (n + 1)).v ≤ max 3 (100 - n)
  | 0 => by
    show (rSample rNew t).s = _ ∧ (rSample rNew t).k = _ ∧ (rSample rNew t).h = _ ∧ 0 ≤ (rSample rNew t).v ∧ (rSample rNew t).v ≤ _
    rw [sample_new ⟨h0, by omega, by decide⟩ rfl]
    dsimp only
    refine ⟨rfl, rfl, rfl, by omega, by omega⟩
  | n + 1 => by
    obtain ⟨e1, e2, e3, e4, e5⟩ := same_is h0 h1 n
    have hok := same_ok t (n + 1)
    show (rSample (rSame t (n + 1)) t).s = _ ∧ (rSample (rSame t (n + 1)) t).k = _ ∧ (rSample (rSame t (n + 1)) t).h = _ ∧ 0 ≤ (rSample (rSame t (n + 1)) t).v ∧ (rSample (rSame t (n + 1)) t).v ≤ _
    rw [sample_more ⟨h0, by omega, hok⟩ e2, e1]
    dsimp only
    refine ⟨by omega, rfl, rfl, by omega, by omega⟩
theorem same_wait {t : Int} (h0 : 0 ≤ t) (h1 : t ≤ 50) : (rSame t 100).s = 8 * t ∧ (rSame t 100).v ≤ 3 ∧ t ≤ rWait (rSame t 100) ∧ rWait (rSame t 100) ≤ max 2 (t + 3) := by
  obtain ⟨e1, e2, e3, e4, e5⟩ := same_is h0 h1 99
  have e0 : 99 + 1 = 100 := rfl
  rw [e0] at e1 e2 e3 e4 e5
  have e6 : rBase (rSame t 100) = max (8 * t / 8 + (rSame t 100).v) 2 := by unfold rBase; rw [if_pos e2, e1]
  rw [wait_yes (same_ok t 100), e3, e6]
  have : (2 : Int) ^ (0 : Int).toNat = 1 := rfl
  rw [this]
  refine ⟨e1, by omega, by omega, by omega⟩
theorem run_append (x : Rtt) (a b : List Int) : rRun (rRun x a) b = rRun x (a ++ b) := (List.foldl_append ..).symm
/-- A time forgets doublings. -/
theorem sample_expire {x : Rtt} (h : rCheck x = 0) (n : Int) (h0 : 0 ≤ n) (h1 : n ≤ 65536) : rSample (rExpire x) n = rSample x n := by
  have hk : (rExpire x).k = x.k ∧ (rExpire x).s = x.s ∧ (rExpire x).v = x.v := by unfold rExpire; split <;> exact ⟨rfl, rfl, rfl⟩
  cases hx : x.k
  · rw [sample_new ⟨h0, h1, h⟩ hx, sample_new ⟨h0, h1, expire_ok h⟩ (hk.1.trans hx)]
  · rw [sample_more ⟨h0, h1, h⟩ hx, sample_more ⟨h0, h1, expire_ok h⟩ (hk.1.trans hx), hk.2.1, hk.2.2]
end Go.Proofs.Ytmngbbkpmaiecaa
