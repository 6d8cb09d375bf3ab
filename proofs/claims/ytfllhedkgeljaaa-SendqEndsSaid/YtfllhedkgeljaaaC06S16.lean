/-
laws 06, plain: counting by numbers; what is put in again. No program.
-/
import Derived.Test.YtfllhedkgeljaaaC06S14
namespace Go.Proofs.Ytfllhedkgeljaaa.C06
open Sx Go.RowKit

/-- How many numbers below. -/
def num (p : Int → Bool) : Nat → Int
  | 0 => 0
  | k + 1 => num p k + if p k = true then 1 else 0
theorem num_ext {p q : Int → Bool} : ∀ {K : Nat}, (∀ n : Nat, n < K → p n = q n) → num p K = num q K
  | 0, _ => rfl
  | K + 1, h => by
    unfold num
    rw [num_ext fun n hn => h n (by omega), h K (by omega)]
theorem num_or {p q : Int → Bool} : ∀ {K : Nat}, (∀ n : Nat, n < K → p n = true → q n = false) → num (fun n => p n || q n) K = num p K + num q K
  | 0, _ => rfl
  | K + 1, h => by
    have ih := num_or (p := p) (q := q) (K := K) fun n hn => h n (by omega)
    have hK := h K (by omega)
    unfold num
    rw [ih]
    cases hp : p K
    · cases q K <;> simp <;> omega
    · rw [hK hp]; simp; omega
theorem num_mono {p q : Int → Bool} : ∀ {K : Nat}, (∀ n : Nat, n < K → p n = true → q n = true) → num p K ≤ num q K
  | 0, _ => Int.le_refl _
  | K + 1, h => by
    have ih := num_mono (p := p) (q := q) (K := K) fun n hn => h n (by omega)
    have hK := h K (by omega)
    unfold num
    cases hp : p K
    · cases q K <;> simp <;> omega
    · rw [hK hp]; simp; omega
theorem num_in {x : Iv} (h0 : 0 ≤ x.1) (h1 : x.1 ≤ x.2) : ∀ K : Nat, num (inV x) K = if (K : Int) ≤ x.1 then 0 else min (K : Int) x.2 - x.1
  | 0 => by rw [if_pos (by omega)]; rfl
  | K + 1 => by
    unfold num
    rw [num_in h0 h1 K]
    by_cases g : x.1 ≤ (K : Int) ∧ (K : Int) < x.2
    · rw [show inV x K = true from decide_eq_true g]
      simp only [if_true]
      split <;> split <;> omega
    · rw [show inV x K = false from decide_eq_false g]
      simp only [if_neg (show ¬(false = true) by simp)]
      split <;> split <;> omega
theorem cnt_num {K : Nat} : ∀ {l : List Iv} {e : Int}, -1 ≤ e → Srt e l → (∀ x ∈ l, x.2 ≤ K) → cnt l = num (has l) K
  | [], e, _, _, _ => by
    have : ∀ K : Nat, num (has []) K = 0 := fun K => by
      induction K with
      | zero => rfl
      | succ K ih => unfold num; rw [ih]; rfl
    rw [this]; rfl
  | x :: l, e, he, h, hK => by
    have hx := h.1
    have hx2 := hK x (by simp)
    have ih := cnt_num (K := K) (l := l) (e := x.2) (by omega) h.2 fun y hy => hK y (List.mem_cons_of_mem _ hy)
    have e1 : num (has (x :: l)) K = num (fun n => inV x n || has l n) K := num_ext fun n _ => rfl
    rw [e1, num_or (fun n _ hn => srt_low h.2 (by have := of_decide_eq_true hn; omega)), num_in (by omega) (by omega) K, ← ih]
    show x.2 - x.1 + cnt l = _
    rw [if_neg (by omega)]
    omega
theorem srt_len : ∀ {l : List Iv} {e M : Int}, Srt e l → (∀ x ∈ l, x.2 ≤ M) → e ≤ M → 2 * (l.length : Int) ≤ M - e
  | [], e, M, _, _, h => by simp; omega
  | x :: l, e, M, h, hM, _ => by
    have hx := h.1
    have hx2 := hM x (by simp)
    have := srt_len h.2 (fun y hy => hM y (List.mem_cons_of_mem _ hy)) hx2
    rw [List.length_cons]
    omega
theorem add_has {s : List Iv} (ok : Ok s) {y : Iv} (hm : mayB y = true) : Ok (rAdd s y) ∧ ∀ n, has (rAdd s y) n = (has s n || inV y n) := by
  cases g : noneB y
  · exact add_ok ok hm g
  · have e : rAdd s y = s := by unfold rAdd; rw [nop_eq, g, Bool.or_true, if_pos rfl]
    rw [e]
    exact ⟨ok, fun n => by rw [inV_none g, Bool.or_false]⟩
theorem cut_has {s : List Iv} (ok : Ok s) {y : Iv} (hm : mayB y = true) : Ok (rCut s y) ∧ ∀ n, has (rCut s y) n = (has s n && !inV y n) := by
  cases g : noneB y
  · exact ⟨(cut_ok ok hm g).1, (cut_ok ok hm g).2.1⟩
  · have e : rCut s y = s := by unfold rCut; rw [nop_eq, g, Bool.or_true, if_pos rfl]
    rw [e]
    exact ⟨ok, fun n => by rw [inV_none g]; simp⟩
theorem again_add {s : List Iv} (ok : Ok s) {y : Iv} (hm : mayB y = true) : rAdd (rCut s y) y = rAdd s y := by
  obtain ⟨c1, c2⟩ := cut_has ok hm
  obtain ⟨a1, a2⟩ := add_has c1 hm
  obtain ⟨b1, b2⟩ := add_has ok hm
  refine ok_inj a1 b1 fun n => ?_
  rw [a2, c2, b2]
  cases has s n <;> cases inV y n <;> rfl
theorem twice_add {s : List Iv} (ok : Ok s) {y : Iv} (hm : mayB y = true) : rAdd (rAdd s y) y = rAdd s y := by
  obtain ⟨b1, b2⟩ := add_has ok hm
  obtain ⟨a1, a2⟩ := add_has b1 hm
  refine ok_inj a1 b1 fun n => ?_
  rw [a2, b2]
  cases has s n <;> cases inV y n <;> rfl
theorem holds_add {s : List Iv} (ok : Ok s) {y : Iv} (hm : mayB y = true) : rHolds (rAdd s y) y = true := by
  obtain ⟨b1, b2⟩ := add_has ok hm
  unfold rHolds
  cases g : noneB y
  · have hy := of_decide_eq_false g
    have h1 : has (rAdd s y) y.1 = true := by rw [b2, show inV y y.1 = true from decide_eq_true (by omega), Bool.or_true]
    have h2 : (fnd (rAdd s y) y.1).2 = true := (rHas_eq _ _).trans h1
    obtain ⟨m1, m2, m3⟩ := fnd_mem h2
    rw [h2, Bool.false_or, Bool.true_and]
    refine decide_eq_true ?_
    have h3 := srt_end b1.srt _ m1
    rw [b2] at h3
    have h4 := (Bool.or_eq_false_iff.1 h3).2
    have := of_decide_eq_false h4
    omega
  · rfl
theorem meet_comm {a b : List Iv} (ha : Ok a) (hb : Ok b) : rMeet a b = rMeet b a := by
  obtain ⟨m1, m2⟩ := meet_ok ha hb
  obtain ⟨k1, k2⟩ := meet_ok hb ha
  exact ok_inj m1 k1 fun n => by rw [m2, k2, Bool.and_comm]
theorem meet_self {a : List Iv} (ha : Ok a) : rMeet a a = a := by
  obtain ⟨m1, m2⟩ := meet_ok ha ha
  exact ok_inj m1 ha fun n => by rw [m2, Bool.and_self]
/-- A set whose numbers are below K. -/
structure Low (K : Nat) (s : List Iv) : Prop where
  ok : Ok s
  lo : ∀ n : Int, (K : Int) ≤ n → has s n = false
theorem low_end {K : Nat} {s : List Iv} (h : Low K s) : ∀ x ∈ s, x.2 ≤ K := fun x hx => by
  by_cases g : x.2 ≤ K
  · exact g
  · have := h.lo (x.2 - 1) (by omega)
    have hm := srt_mem h.ok.srt x hx
    rw [has_iff.2 ⟨x, hx, by omega⟩] at this
    cases this
theorem low_count {K : Nat} {s : List Iv} (h : Low K s) : rCount s = num (has s) K := by
  unfold rCount
  rw [if_pos (iChk_iff.2 h.ok)]
  exact cnt_num (by omega) h.ok.srt (low_end h)
theorem low_len {K : Nat} {s : List Iv} (h : Low K s) : 2 * s.length ≤ K + 1 := by
  have := srt_len h.ok.srt (low_end h) (by omega)
  omega
theorem low_add {K : Nat} {s : List Iv} (h : Low K s) {y : Iv} (hm : mayB y = true) (hy : y.2 ≤ K) : Low K (rAdd s y) := by
  obtain ⟨b1, b2⟩ := add_has h.ok hm
  exact ⟨b1, fun n hn => by rw [b2, h.lo n hn, show inV y n = false from decide_eq_false (by omega)]; rfl⟩
theorem low_cut {K : Nat} {s : List Iv} (h : Low K s) {y : Iv} (hm : mayB y = true) : Low K (rCut s y) := by
  obtain ⟨b1, b2⟩ := cut_has h.ok hm
  exact ⟨b1, fun n hn => by rw [b2, h.lo n hn]; rfl⟩
theorem low_meet {K : Nat} {s o : List Iv} (h : Low K s) (g : Low K o) : Low K (rMeet s o) := by
  obtain ⟨b1, b2⟩ := meet_ok h.ok g.ok
  exact ⟨b1, fun n hn => by rw [b2, h.lo n hn]; rfl⟩
theorem low_nil (K : Nat) : Low K [] := ⟨⟨trivial, fun x hx => by cases hx⟩, fun n _ => rfl⟩
theorem count_meet {K : Nat} {s o : List Iv} (h : Low K s) (g : Low K o) : rCount (rMeet s o) ≤ min (rCount s) (rCount o) := by
  rw [low_count (low_meet h g), low_count h, low_count g]
  have m2 := (meet_ok h.ok g.ok).2
  have a1 : num (has (rMeet s o)) K ≤ num (has s) K := num_mono fun n _ hn => by rw [m2, Bool.and_eq_true] at hn; exact hn.1
  have a2 : num (has (rMeet s o)) K ≤ num (has o) K := num_mono fun n _ hn => by rw [m2, Bool.and_eq_true] at hn; exact hn.2
  omega
theorem count_parts {K : Nat} {s : List Iv} (h : Low K s) {y : Iv} (hm : mayB y = true) (hy : y.2 ≤ K) : rCount (rCut s y) + rCount (rMeet s (rAdd [] y)) = rCount s := by
  have g := low_add (low_nil K) hm hy
  rw [low_count (low_meet h g), low_count h, low_count (low_cut h hm)]
  have m2 := (meet_ok h.ok g.ok).2
  have c2 := (cut_has h.ok hm).2
  have a2 := (add_has (low_nil K).ok hm).2
  rw [← num_or (fun n _ hn => by
    rw [c2, Bool.and_eq_true] at hn
    rw [m2, a2]
    have := hn.2
    cases hv : inV y n
    · simp [has]
    · rw [hv] at this; cases this)]
  refine num_ext fun n _ => ?_
  show (has (rCut s y) n || has (rMeet s (rAdd [] y)) n) = _
  rw [c2, m2, a2]
  show (has s n && !inV y n || has s n && (false || inV y n)) = has s n
  cases has s n <;> cases inV y n <;> rfl
end Go.Proofs.Ytfllhedkgeljaaa.C06
