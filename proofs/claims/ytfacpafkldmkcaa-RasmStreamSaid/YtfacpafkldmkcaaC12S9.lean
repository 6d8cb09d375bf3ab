/-
laws 12: the program's join, joined.
-/
import Derived.Test.YtfacpafkldmkcaaC12S8
set_option linter.unusedSimpArgs false
set_option linter.unusedVariables false
namespace Go.Proofs.Ytfacpafkldmkcaa.C12
open Sx Go.RowKit

/-- Parts in order, each behind the one before. -/
def Srt : Int → List Pt → Prop
  | _, [] => True
  | e, x :: l => e < x.a ∧ Srt (pEnd x) l
theorem p1_spec : ∀ (l : List Pt) (x : Pt), p1 l x ≤ l.length ∧ (∀ j y, j < p1 l x → l[j]? = some y → pEnd y < x.a) ∧ (∀ y, l[p1 l x]? = some y → ¬pEnd y < x.a)
  | [], x => ⟨by simp [p1], fun j y h => by simp [p1] at h, fun y h => by simp at h⟩
  | z :: l, x => by
    obtain ⟨i1, i2, i3⟩ := p1_spec l x
    unfold p1 at *
    by_cases h : pEnd z < x.a
    · rw [List.takeWhile_cons_of_pos (by simpa using h)]
      simp only [List.length_cons]
      refine ⟨by omega, fun j y hj hy => ?_, fun y hy => ?_⟩
      · cases j with
        | zero => simp at hy; subst hy; exact h
        | succ j => exact i2 j y (by omega) (by simpa using hy)
      · exact i3 y (by simpa using hy)
    · rw [List.takeWhile_cons_of_neg (by simpa using h)]
      simp only [List.length_nil, List.length_cons]
      refine ⟨by omega, fun j y hj => by omega, fun y hy => ?_⟩
      simp at hy
      subst hy
      exact h
theorem l32a (l : List Pt) (hl : l.length < 1000000) (x : Pt) (sx : Sm x) (hs : ∀ y ∈ l, Sm y) : Loops Try.prog 0 (loopN Try.prog 43 0) ((I32 l x 0 0).as 104) (.exit 0) ((I32 l x (p1 l x) (p1 l x)).as 104) := by
  obtain ⟨h1, h2, h3⟩ := p1_spec l x
  refine loops_n (I := fun j => (I32 l x j j).as 104) (by simp) (p1 l x) 0 (by omega) (fun j _ hj => ?_) ?_
  · have hjl : j < l.length := by omega
    exact r32 l hl x sx j j _ (hs _ (List.getElem_mem hjl)) (get_of hjl) (h2 j _ hj (get_of hjl))
  · by_cases h : p1 l x < l.length
    · exact e32 l hl x sx (p1 l x) (p1 l x) _ (hs _ (List.getElem_mem h)) (get_of h) (h3 _ (get_of h))
    · have e : p1 l x = l.length := by omega
      rw [e]
      exact q32 l x
theorem mg_a (y x : Pt) : (mg y x).a = min y.a x.a := by
  unfold mg
  split
  · show y.a = _; omega
  · show x.a = _; omega
theorem mg_len (y x : Pt) : (mg y x).d.length ≤ x.d.length + y.d.length := by
  unfold mg mgCut
  split
  · simp only [List.length_append, List.length_drop]; omega
  · next h =>
    simp only [List.length_append, List.length_drop, List.length_take]
    unfold pEnd
    omega
theorem l32b (l : List Pt) (hl : l.length < 1000000) (i : Nat) : ∀ (m : List Pt) (j : Nat) (x : Pt), l.drop j = m → j ≤ l.length → (∀ y ∈ m, Sm y ∧ x.a ≤ pEnd y) → (0 ≤ x.a ∧ x.a ≤ 1099511627776) → x.d.length + sumD m < 1000000 →
    ∃ k, k ≤ l.length ∧ (jn2 x m).2 = l.drop k ∧ Loops Try.prog 0 (loopN Try.prog 43 1) ((I32 l x i j).as 104) (.exit 2) ((I32 l (jn2 x m).1 i k).as 104)
  | [], j, x, hd, hj, hy, ha, hs => by
    have hjl : j = l.length := by
      have : (l.drop j).length = 0 := by rw [hd]; rfl
      rw [List.length_drop] at this
      omega
    subst hjl
    exact ⟨_, Nat.le_refl _, by simp [jn2], .out (q32b l x i) (by simp)⟩
  | y :: r, j, x, hd, hj, hy, ha, hs => by
    obtain ⟨hn, hd2⟩ := drop_cons hd
    have hjl := get_lt hn
    rw [sumD_cons] at hs
    have sx : Sm x := ⟨ha, by omega⟩
    obtain ⟨sy, hye⟩ := hy y (List.mem_cons_self ..)
    unfold jn2
    by_cases h : y.a > pEnd x
    · rw [if_pos h]
      exact ⟨j, hj, hd.symm, .out (z32 l hl x sx i j y sy hn h) (by simp)⟩
    · rw [if_neg h]
      have hma := mg_a y x
      have hml := mg_len y x
      have sya := sy.a
      obtain ⟨k, k1, k2, k3⟩ := l32b l hl i r (j + 1) (mg y x) hd2 (by omega) (fun z hz => ⟨(hy z (List.mem_cons_of_mem _ hz)).1, by have := (hy z (List.mem_cons_of_mem _ hz)).2; omega⟩) (by omega) (by omega)
      refine ⟨k, k1, k2, ?_⟩
      by_cases h2 : y.a ≤ x.a
      · exact .next (m32a l hl x sx i j y sy hn (by omega) h2 hye) k3
      · exact .next (m32b l hl x sx i j y sy hn (by omega) h2 hye) k3
theorem srt_ge {a : Int} : ∀ {m : List Pt} {e : Int}, Srt e m → (∀ y, m[0]? = some y → a ≤ pEnd y) → ∀ y ∈ m, a ≤ pEnd y
  | [], e, _, _, y, hy => by cases hy
  | z :: r, e, h, h0, y, hy => by
    have hz := h0 z rfl
    rcases List.mem_cons.1 hy with rfl | hy
    · exact hz
    · refine srt_ge h.2 (fun w hw => ?_) y hy
      cases r with
      | nil => simp at hw
      | cons w' r' =>
        simp at hw
        subst hw
        have := h.2.1
        unfold pEnd at *
        omega
theorem srt_drop : ∀ (k : Nat) {l : List Pt} {e : Int}, Srt e l → ∃ e', Srt e' (l.drop k)
  | 0, l, e, h => ⟨e, by simpa using h⟩
  | k + 1, [], e, h => ⟨e, by simpa using h⟩
  | k + 1, x :: l, e, h => by rw [List.drop_succ_cons]; exact srt_drop k h.2
theorem sumD_drop (l : List Pt) (k : Nat) : sumD (l.drop k) ≤ sumD l := by
  have h := sumD_append (l.take k) (l.drop k)
  rw [List.take_append_drop] at h
  omega
theorem join32' (l : List Pt) (hl : l.length < 1000000) (e : Int) (hs : Srt e l) (x : Pt) (ha : 0 ≤ x.a ∧ x.a ≤ 1099511627776) (hd : x.d.length + sumD l < 1000000) (hsm : ∀ y ∈ l, Sm y) :
    FnOK Try.prog 43 [.d (.sl (l.map ptD)), .d (ptD x)] [] (.own 0 2) [.row 2 ((jn l x).map ptD)] := by
  obtain ⟨h1, h2, h3⟩ := p1_spec l x
  have hL := l32a l hl x ⟨ha, by omega⟩ hsm
  obtain ⟨e', he⟩ := srt_drop (p1 l x) hs
  have hge := srt_ge (a := x.a) he (fun y hy => by
    rw [List.getElem?_drop, Nat.add_zero] at hy
    have := h3 y hy
    omega)
  have hsd := sumD_drop l (p1 l x)
  obtain ⟨k, k1, k2, k3⟩ := l32b l hl (p1 l x) _ (p1 l x) x rfl h1 (fun y hy => ⟨hsm y (List.mem_of_mem_drop hy), hge y hy⟩) ha (by omega)
  have h := join32 l hl x _ (p1 l x) k h1 k1 hL k3
  unfold jn
  rw [k2]
  exact h
end Go.Proofs.Ytfacpafkldmkcaa.C12
