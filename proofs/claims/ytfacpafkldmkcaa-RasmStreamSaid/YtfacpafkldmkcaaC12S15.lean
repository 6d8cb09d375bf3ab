/-
laws 12: the document's insert, joined; a byte taken.
-/
import Derived.Test.YtfacpafkldmkcaaC12S14
set_option linter.unusedSimpArgs false
set_option linter.unusedVariables false
namespace Go.Proofs.Ytfacpafkldmkcaa.C12
open Sx Go.RowKit

def stM (m : List Pt) (x : Pt) : List Pt := match m.getLast? with | some y => if pEnd y = x.a then m.dropLast ++ [⟨y.a, y.d ++ x.d⟩] else m ++ [x] | none => [x]
def mrg (o : List Pt) : List Pt := o.foldl stM []
def iAt (l : List Pt) (k : Int) : Nat := (l.takeWhile (fun y => decide (y.a < k))).length
def insO (l : List Pt) (k : Int) (c : List UInt8) : List Pt := l.take (iAt l k) ++ [⟨k, c⟩] ++ l.drop (iAt l k)
def ins (l : List Pt) (k : Int) (c : List UInt8) : List Pt := mrg (insO l k c)
theorem stM_nil (x : Pt) : stM [] x = [x] := rfl
theorem stM_y {m : List Pt} {y x : Pt} (h : pEnd y = x.a) : stM (m ++ [y]) x = m ++ [⟨y.a, y.d ++ x.d⟩] := by
  unfold stM
  rw [List.getLast?_append]
  simp [h]
theorem stM_n {m : List Pt} {y x : Pt} (h : pEnd y ≠ x.a) : stM (m ++ [y]) x = m ++ [y] ++ [x] := by
  unfold stM
  rw [List.getLast?_append]
  simp [h]
theorem iAt_spec : ∀ (l : List Pt) (k : Int), iAt l k ≤ l.length ∧ (∀ j y, j < iAt l k → l[j]? = some y → y.a < k) ∧ (∀ y, l[iAt l k]? = some y → ¬y.a < k)
  | [], k => ⟨by simp [iAt], fun j y h => by simp [iAt] at h, fun y h => by simp at h⟩
  | z :: l, k => by
    obtain ⟨i1, i2, i3⟩ := iAt_spec l k
    unfold iAt at *
    by_cases h : z.a < k
    · rw [List.takeWhile_cons_of_pos (by simpa using h)]
      simp only [List.length_cons]
      refine ⟨by omega, fun j y hj hy => ?_, fun y hy => ?_⟩
      · cases j with
        | zero => simp at hy; subst hy; exact h
        | succ j => exact i2 j y (by omega) (by simpa using hy)
      · exact i3 y (by simpa using hy)
    · rw [List.takeWhile_cons_of_neg (by simpa using h)]
      simp only [List.length_nil, List.length_cons]
      refine ⟨by omega, fun j y hj => by omega, fun y hy => ?_⟩
      simp at hy
      subst hy
      exact h
/-- What the merging of parts keeps. -/
structure Mk (t : Nat) (m : List Pt) : Prop where
  s : ∀ y ∈ m, 0 ≤ y.a ∧ y.a ≤ 1099511627776
  d : sumD m ≤ t
theorem stM_mk {t u : Nat} {m : List Pt} (h : Mk t m) {x : Pt} (hx : 0 ≤ x.a ∧ x.a ≤ 1099511627776) (hu : t + x.d.length ≤ u) : Mk u (stM m x) ∧ (stM m x).length ≤ m.length + 1 := by
  rcases List.eq_nil_or_concat m with rfl | ⟨m, y, rfl⟩
  · rw [stM_nil]
    refine ⟨⟨fun z hz => ?_, by rw [sumD_cons]; simp [sumD]; omega⟩, by simp⟩
    simp at hz; subst hz; exact hx
  · rw [List.concat_eq_append] at *
    have hy := h.s y (by simp)
    have hd := h.d
    rw [sumD_append, sumD_cons] at hd
    by_cases e : pEnd y = x.a
    · rw [stM_y e]
      refine ⟨⟨fun z hz => ?_, ?_⟩, by simp⟩
      · simp at hz
        rcases hz with hz | rfl
        · exact h.s z (by simp [hz])
        · exact hy
      · rw [sumD_append, sumD_cons]
        simp only [List.length_append]
        simp only [show sumD [] = 0 from rfl] at *
        omega
    · rw [stM_n e]
      refine ⟨⟨fun z hz => ?_, ?_⟩, by simp⟩
      · simp at hz
        rcases hz with hz | rfl | rfl
        · exact h.s z (by simp [hz])
        · exact hy
        · exact hx
      · rw [sumD_append, sumD_append, sumD_cons, sumD_cons]
        simp only [show sumD [] = 0 from rfl] at *
        omega
theorem mrg_take {o : List Pt} (ho : ∀ y ∈ o, 0 ≤ y.a ∧ y.a ≤ 1099511627776) : ∀ j, j ≤ o.length → Mk (sumD (o.take j)) ((o.take j).foldl stM []) ∧ ((o.take j).foldl stM []).length ≤ j
  | 0, _ => ⟨⟨fun y hy => by simp at hy, by simp [sumD]⟩, by simp⟩
  | j + 1, hj => by
    obtain ⟨i1, i2⟩ := mrg_take ho j (by omega)
    have hn := get_of (l := o) (j := j) (by omega)
    rw [sumD_take hn, take_snoc hn, List.foldl_append]
    obtain ⟨k1, k2⟩ := stM_mk (u := sumD (o.take j) + (o[j]'(by omega)).d.length) i1 (ho _ (List.getElem_mem (by omega))) (Nat.le_refl _)
    exact ⟨k1, by show (stM _ _).length ≤ _; omega⟩
theorem l38a (l : List Pt) (hl : l.length < 1000000) (k : Int) (c : List UInt8) : Loops Try.prog 0 (loopN Try.prog 50 0) ((I38 l k c 0).as 98) (.exit 0) ((I38 l k c (iAt l k)).as 98) := by
  obtain ⟨h1, h2, h3⟩ := iAt_spec l k
  refine loops_n (I := fun j => (I38 l k c j).as 98) (by simp) (iAt l k) 0 (by omega) (fun j _ hj => ?_) ?_
  · have hjl : j < l.length := by omega
    exact r38 l hl k c j _ (get_of hjl) (h2 j _ hj (get_of hjl))
  · by_cases h : iAt l k < l.length
    · exact e38 l hl k c (iAt l k) _ (get_of h) (h3 _ (get_of h))
    · have e : iAt l k = l.length := by omega
      rw [e]
      exact q38 l k c
theorem m38 (o : List Pt) (hl : o.length < 900000) (ho : ∀ y ∈ o, 0 ≤ y.a ∧ y.a ≤ 1099511627776) (hd : sumD o < 900000) (j : Nat) (hj : j < o.length) :
    Runs Try.prog 0 (loopN Try.prog 50 1) ((I38b o ((o.take j).foldl stM []) j).as 98) .normal ((I38b o ((o.take (j + 1)).foldl stM []) (j + 1)).as 98) := by
  obtain ⟨i1, i2⟩ := mrg_take ho j (by omega)
  have hn := get_of (l := o) (j := j) (by omega)
  have hs := sumD_le (l := o) (j + 1)
  have hst := sumD_take hn
  rw [take_snoc hn, List.foldl_append]
  show Runs _ _ _ _ _ ((I38b o (stM _ _) (j + 1)).as _)
  generalize (o.take j).foldl stM [] = m at *
  generalize o[j]'(by omega) = x at *
  rcases List.eq_nil_or_concat m with rfl | ⟨m, y, rfl⟩
  · rw [stM_nil]; exact m38n o (by omega) j x hn
  · rw [List.concat_eq_append] at *
    have hy := i1.s y (by simp)
    have hyd := i1.d
    rw [sumD_append, sumD_cons] at hyd
    have hw : IntKind.i64.wrap (pEnd y) = pEnd y := by unfold pEnd; rw [IntKind.wrap_i64]; omega
    have hml : m.length < 1000000 := by rw [List.length_append] at i2; omega
    by_cases e : pEnd y = x.a
    · rw [stM_y e]; exact m38t o (by omega) j x hn m hml y hw e (by omega)
    · rw [stM_n e]; exact m38a o (by omega) j x hn m hml y hw e
theorem insO_len (l : List Pt) (k : Int) (c : List UInt8) : (insO l k c).length = l.length + 1 := by
  have h := (iAt_spec l k).1
  unfold insO
  simp only [List.length_append, List.length_take, List.length_drop, List.length_cons, List.length_nil]
  omega
theorem insO_mem {l : List Pt} {k : Int} {c : List UInt8} {y : Pt} (h : y ∈ insO l k c) : y ∈ l ∨ y = ⟨k, c⟩ := by
  unfold insO at h
  simp only [List.mem_append, List.mem_singleton] at h
  rcases h with (h | h) | h
  · exact .inl (List.mem_of_mem_take h)
  · exact .inr h
  · exact .inl (List.mem_of_mem_drop h)
theorem insO_sum (l : List Pt) (k : Int) (c : List UInt8) : sumD (insO l k c) = sumD l + c.length := by
  unfold insO
  rw [sumD_append, sumD_append, sumD_cons]
  have h := sumD_append (l.take (iAt l k)) (l.drop (iAt l k))
  rw [List.take_append_drop] at h
  simp only [show sumD [] = 0 from rfl]
  omega
theorem ins38j (l : List Pt) (hl : l.length < 800000) (k : Int) (hk : 0 ≤ k ∧ k ≤ 1099511627776) (c : List UInt8) (hs : ∀ y ∈ l, 0 ≤ y.a ∧ y.a ≤ 1099511627776) (hd : sumD l + c.length < 900000) :
    FnOK Try.prog 50 [.d (.sl (l.map ptD)), .d (.int .i64 k), .d (.str c)] [] (.d (.sl ((ins l k c).map ptD))) [] := by
  have hlo := insO_len l k c
  have hm : ∀ y ∈ insO l k c, 0 ≤ y.a ∧ y.a ≤ 1099511627776 := fun y hy => by
    rcases insO_mem hy with h | rfl
    · exact hs y h
    · exact hk
  have h2 := loops_n (P := Try.prog) (k := 0) (c := loopN Try.prog 50 1) (e := .exit 2) (I := fun j => (I38b (insO l k c) (((insO l k c).take j).foldl stM []) j).as 98) (by simp) (insO l k c).length 0 (by omega) (fun j _ hj => m38 _ (by omega) hm (by rw [insO_sum]; omega) j hj) (by
    simp only [List.take_length]; exact q38b _ (mrg (insO l k c)))
  exact ins38 l (by omega) k c (iAt l k) (iAt_spec l k).1 _ rfl (ins l k c) (l38a l (by omega) k c) h2
/-! ### One byte -/
set_option maxRecDepth 100000 in
set_option maxHeartbeats 1000000 in
theorem o35a (s : Rq) (hr : s.r.length < 1000000) (hl : s.p.length < 1000000) (h0 : 0 ≤ s.b) (h1 : s.b ≤ 1099511627776) (k : Int) (c : List UInt8) (hc : c.length = 1) (lim : Int) (k1 : FnOK Try.prog 47 [.d (rqD s)] [] (.d (.int .i64 lim)) []) (k2 : True) (k3 : True) (h : k < s.b) : FnOK Try.prog 46 ([.d (rqD s), .d (.int .i64 k), .d (.str c)]) ([]) (.tup [.d (rqD s), .d (.bool false)]) ([]) := by
  refine fnOK_wp (p := (D.bool (decide (k < s.b)) = D.bool true) ∧ ((D.bool true = D.bool true) ∧ ((D.bool true = D.bool true) ∧ ((AV.tup [AV.d (D.agg [D.int IntKind.i64 s.b, D.str s.r, D.sl (List.map ptD s.p)]), AV.d (D.bool false)] = AV.tup [AV.d (D.agg [D.int IntKind.i64 s.b, D.str s.r, D.sl (List.map ptD s.p)]), AV.d (D.bool false)]) ∧ (True))))) (h := {H := [(1, [(3, .val (.bool true))])]}) (subs := []) (ws := []) (ρ := []) (by kernel_rfl) ?_
  repeat' (first | with_reducible exact True.intro | with_reducible refine And.intro ?_ ?_ | with_reducible refine condP_dec (fun _ => ?_) (fun _ => ?_) | with_reducible refine condP_eq (fun _ => ?_) (fun _ => ?_) | with_reducible refine condP_ne (fun _ => ?_) (fun _ => ?_) | with_reducible refine condP_not (condP_dec (fun _ => ?_) (fun _ => ?_)) | with_reducible refine condP_not (condP_eq (fun _ => ?_) (fun _ => ?_)) | with_reducible refine condP_not (condP_intro (fun _ => ?_) (fun _ => ?_)) | with_reducible refine condP_intro (fun _ => ?_) (fun _ => ?_))
  all_goals first | exact k1 | exact k2 | exact k3 | rfl | omega | exact dyes (by omega) | exact dno (by omega) | exact dyes hf | (refine congrArg D.bool ?_; simpa using hf) | (rw [hp]; rfl) | (simp [hp]; done) | exact ptD_sz _ | (simp [hp]; omega) | skip

set_option maxRecDepth 100000 in
set_option maxHeartbeats 1000000 in
theorem o35b (s : Rq) (hr : s.r.length < 1000000) (hl : s.p.length < 1000000) (h0 : 0 ≤ s.b) (h1 : s.b ≤ 1099511627776) (k : Int) (c : List UInt8) (hc : c.length = 1) (lim : Int) (k1 : FnOK Try.prog 47 [.d (rqD s)] [] (.d (.int .i64 lim)) []) (k2 : True) (k3 : True) (h : ¬k < s.b) (h2 : k ≥ lim) : FnOK Try.prog 46 ([.d (rqD s), .d (.int .i64 k), .d (.str c)]) ([]) (.tup [.d (rqD s), .d (.bool false)]) ([]) := by
  refine fnOK_wp (p := (D.bool (decide (k < s.b)) = D.bool false) ∧ ((D.bool false = D.bool false) ∧ ((FnOK Try.prog (47 : Nat) [AV.d (D.agg [D.int IntKind.i64 s.b, D.str s.r, D.sl (List.map ptD s.p)])] [] (AV.d (D.int IntKind.i64 lim)) []) ∧ ((D.bool (decide (k ≥ lim)) = D.bool true) ∧ ((D.bool true = D.bool true) ∧ ((AV.tup [AV.d (D.agg [D.int IntKind.i64 s.b, D.str s.r, D.sl (List.map ptD s.p)]), AV.d (D.bool false)] = AV.tup [AV.d (D.agg [D.int IntKind.i64 s.b, D.str s.r, D.sl (List.map ptD s.p)]), AV.d (D.bool false)]) ∧ (True))))))) (h := {H := [(1, [(3, .val (.bool false)), (8, .val (.bool true))])], G := [(47, gAns (.d (.int .i64 lim)))]}) (subs := []) (ws := []) (ρ := []) (by kernel_rfl) ?_
  repeat' (first | with_reducible exact True.intro | with_reducible refine And.intro ?_ ?_ | with_reducible refine condP_dec (fun _ => ?_) (fun _ => ?_) | with_reducible refine condP_eq (fun _ => ?_) (fun _ => ?_) | with_reducible refine condP_ne (fun _ => ?_) (fun _ => ?_) | with_reducible refine condP_not (condP_dec (fun _ => ?_) (fun _ => ?_)) | with_reducible refine condP_not (condP_eq (fun _ => ?_) (fun _ => ?_)) | with_reducible refine condP_not (condP_intro (fun _ => ?_) (fun _ => ?_)) | with_reducible refine condP_intro (fun _ => ?_) (fun _ => ?_))
  all_goals first | exact k1 | exact k2 | exact k3 | rfl | omega | exact dyes (by omega) | exact dno (by omega) | exact dyes hf | (refine congrArg D.bool ?_; simpa using hf) | (rw [hp]; rfl) | (simp [hp]; done) | exact ptD_sz _ | (simp [hp]; omega) | skip

set_option maxRecDepth 100000 in
set_option maxHeartbeats 1000000 in
theorem o35c (s : Rq) (hr : s.r.length < 1000000) (hl : s.p.length < 1000000) (h0 : 0 ≤ s.b) (h1 : s.b ≤ 1099511627776) (k : Int) (c : List UInt8) (hc : c.length = 1) (lim : Int) (k1 : FnOK Try.prog 47 [.d (rqD s)] [] (.d (.int .i64 lim)) []) (k3 : True) (h : ¬k < s.b) (h2 : ¬k ≥ lim) (k2 : FnOK Try.prog 49 [.d (rqD s), .d (.int .i64 k)] [] (.d (.bool true)) []) : FnOK Try.prog 46 ([.d (rqD s), .d (.int .i64 k), .d (.str c)]) ([]) (.tup [.d (rqD s), .d (.bool false)]) ([]) := by
  refine fnOK_wp (p := (D.bool (decide (k < s.b)) = D.bool false) ∧ ((D.bool false = D.bool false) ∧ ((FnOK Try.prog (47 : Nat) [AV.d (D.agg [D.int IntKind.i64 s.b, D.str s.r, D.sl (List.map ptD s.p)])] [] (AV.d (D.int IntKind.i64 lim)) []) ∧ ((D.bool (decide (k ≥ lim)) = D.bool false) ∧ ((D.bool false = D.bool false) ∧ ((FnOK Try.prog (49 : Nat) [AV.d (D.agg [D.int IntKind.i64 s.b, D.str s.r, D.sl (List.map ptD s.p)]), AV.d (D.int IntKind.i64 k)] [] (AV.d (D.bool true)) []) ∧ ((AV.tup [AV.d (D.agg [D.int IntKind.i64 s.b, D.str s.r, D.sl (List.map ptD s.p)]), AV.d (D.bool false)] = AV.tup [AV.d (D.agg [D.int IntKind.i64 s.b, D.str s.r, D.sl (List.map ptD s.p)]), AV.d (D.bool false)]) ∧ (True)))))))) (h := {H := [(1, [(3, .val (.bool false)), (8, .val (.bool false))])], G := [(47, gAns (.d (.int .i64 lim))), (49, gAns (.d (.bool true)))]}) (subs := []) (ws := []) (ρ := []) (by kernel_rfl) ?_
  repeat' (first | with_reducible exact True.intro | with_reducible refine And.intro ?_ ?_ | with_reducible refine condP_dec (fun _ => ?_) (fun _ => ?_) | with_reducible refine condP_eq (fun _ => ?_) (fun _ => ?_) | with_reducible refine condP_ne (fun _ => ?_) (fun _ => ?_) | with_reducible refine condP_not (condP_dec (fun _ => ?_) (fun _ => ?_)) | with_reducible refine condP_not (condP_eq (fun _ => ?_) (fun _ => ?_)) | with_reducible refine condP_not (condP_intro (fun _ => ?_) (fun _ => ?_)) | with_reducible refine condP_intro (fun _ => ?_) (fun _ => ?_))
  all_goals first | exact k1 | exact k2 | exact k3 | rfl | omega | exact dyes (by omega) | exact dno (by omega) | exact dyes hf | (refine congrArg D.bool ?_; simpa using hf) | (rw [hp]; rfl) | (simp [hp]; done) | exact ptD_sz _ | (simp [hp]; omega) | skip

set_option maxRecDepth 100000 in
set_option maxHeartbeats 1000000 in
theorem o35d (s : Rq) (hr : s.r.length < 1000000) (hl : s.p.length < 1000000) (h0 : 0 ≤ s.b) (h1 : s.b ≤ 1099511627776) (k : Int) (c : List UInt8) (hc : c.length = 1) (lim : Int) (k1 : FnOK Try.prog 47 [.d (rqD s)] [] (.d (.int .i64 lim)) []) (h : ¬k < s.b) (h2 : ¬k ≥ lim) (k2 : FnOK Try.prog 49 [.d (rqD s), .d (.int .i64 k)] [] (.d (.bool false)) []) (h3 : k > s.b) (m : List Pt) (k3 : FnOK Try.prog 50 [.d (.sl (s.p.map ptD)), .d (.int .i64 k), .d (.str c)] [] (.d (.sl (m.map ptD))) []) : FnOK Try.prog 46 ([.d (rqD s), .d (.int .i64 k), .d (.str c)]) ([]) (.tup [.d (rqD ⟨s.b, s.r, m⟩), .d (.bool true)]) ([]) := by
  refine fnOK_wp (p := (D.bool (decide (k < s.b)) = D.bool false) ∧ ((D.bool false = D.bool false) ∧ ((FnOK Try.prog (47 : Nat) [AV.d (D.agg [D.int IntKind.i64 s.b, D.str s.r, D.sl (List.map ptD s.p)])] [] (AV.d (D.int IntKind.i64 lim)) []) ∧ ((D.bool (decide (k ≥ lim)) = D.bool false) ∧ ((D.bool false = D.bool false) ∧ ((FnOK Try.prog (49 : Nat) [AV.d (D.agg [D.int IntKind.i64 s.b, D.str s.r, D.sl (List.map ptD s.p)]), AV.d (D.int IntKind.i64 k)] [] (AV.d (D.bool false)) []) ∧ ((D.bool (decide (k > s.b)) = D.bool true) ∧ ((FnOK Try.prog (50 : Nat) [AV.d (D.sl (List.map ptD s.p)), AV.d (D.int IntKind.i64 k), AV.d (D.str c)] [] (AV.d (D.sl (List.map ptD m))) []) ∧ ((AV.tup [AV.d (D.agg [D.int IntKind.i64 s.b, D.str s.r, D.sl (List.map ptD m)]), AV.d (D.bool true)] = AV.tup [AV.d (D.agg [D.int IntKind.i64 (Rq.mk s.b s.r m).b, D.str (Rq.mk s.b s.r m).r, D.sl (List.map ptD (Rq.mk s.b s.r m).p)]), AV.d (D.bool true)]) ∧ (True)))))))))) (h := {H := [(1, [(3, .val (.bool false)), (8, .val (.bool false))]), (3, [(3, .val (.bool true))])], G := [(47, gAns (.d (.int .i64 lim))), (49, gAns (.d (.bool false))), (50, gAns (.d (.sl (m.map ptD))))]}) (subs := []) (ws := []) (ρ := []) (by kernel_rfl) ?_
  repeat' (first | with_reducible exact True.intro | with_reducible refine And.intro ?_ ?_ | with_reducible refine condP_dec (fun _ => ?_) (fun _ => ?_) | with_reducible refine condP_eq (fun _ => ?_) (fun _ => ?_) | with_reducible refine condP_ne (fun _ => ?_) (fun _ => ?_) | with_reducible refine condP_not (condP_dec (fun _ => ?_) (fun _ => ?_)) | with_reducible refine condP_not (condP_eq (fun _ => ?_) (fun _ => ?_)) | with_reducible refine condP_not (condP_intro (fun _ => ?_) (fun _ => ?_)) | with_reducible refine condP_intro (fun _ => ?_) (fun _ => ?_))
  all_goals first | exact k1 | exact k2 | exact k3 | rfl | omega | exact dyes (by omega) | exact dno (by omega) | exact dyes hf | (refine congrArg D.bool ?_; simpa using hf) | (rw [hp]; rfl) | (simp [hp]; done) | exact ptD_sz _ | (simp [hp]; omega) | skip

set_option maxRecDepth 100000 in
set_option maxHeartbeats 1000000 in
theorem o35e (s : Rq) (hr : s.r.length < 1000000) (hl : s.p.length < 1000000) (h0 : 0 ≤ s.b) (h1 : s.b ≤ 1099511627776) (k : Int) (c : List UInt8) (hc : c.length = 1) (lim : Int) (k1 : FnOK Try.prog 47 [.d (rqD s)] [] (.d (.int .i64 lim)) []) (h : ¬k < s.b) (h2 : ¬k ≥ lim) (k2 : FnOK Try.prog 49 [.d (rqD s), .d (.int .i64 k)] [] (.d (.bool false)) []) (k3 : True) (h3 : ¬k > s.b) (hp : s.p = []) : FnOK Try.prog 46 ([.d (rqD s), .d (.int .i64 k), .d (.str c)]) ([]) (.tup [.d (rqD ⟨s.b + 1, s.r ++ c, s.p⟩), .d (.bool true)]) ([]) := by
  refine fnOK_wp (p := (D.bool (decide (k < s.b)) = D.bool false) ∧ ((D.bool false = D.bool false) ∧ ((FnOK Try.prog (47 : Nat) [AV.d (D.agg [D.int IntKind.i64 s.b, D.str s.r, D.sl (List.map ptD s.p)])] [] (AV.d (D.int IntKind.i64 lim)) []) ∧ ((D.bool (decide (k ≥ lim)) = D.bool false) ∧ ((D.bool false = D.bool false) ∧ ((FnOK Try.prog (49 : Nat) [AV.d (D.agg [D.int IntKind.i64 s.b, D.str s.r, D.sl (List.map ptD s.p)]), AV.d (D.int IntKind.i64 k)] [] (AV.d (D.bool false)) []) ∧ ((D.bool (decide (k > s.b)) = D.bool false) ∧ (((↑(s.r.length + c.length) : Int) ≤ (9223372036854775807 : Int)) ∧ ((D.bool (decide ((↑(List.map ptD s.p).length : Int) > (0 : Int))) = D.bool false) ∧ ((D.bool false = D.bool false) ∧ ((AV.tup [AV.d (D.agg [D.int IntKind.i64 (IntKind.i64.wrap (s.b + (1 : Int))), D.str (s.r ++ c), D.sl (List.map ptD s.p)]), AV.d (D.bool true)] = AV.tup [AV.d (D.agg [D.int IntKind.i64 (Rq.mk (s.b + (1 : Int)) (s.r ++ c) s.p).b, D.str (Rq.mk (s.b + (1 : Int)) (s.r ++ c) s.p).r, D.sl (List.map ptD (Rq.mk (s.b + (1 : Int)) (s.r ++ c) s.p).p)]), AV.d (D.bool true)]) ∧ (True)))))))))))) (h := {H := [(1, [(3, .val (.bool false)), (8, .val (.bool false))]), (3, [(3, .val (.bool false))]), (8, [(3, .val (.bool false))])], G := [(47, gAns (.d (.int .i64 lim))), (49, gAns (.d (.bool false)))]}) (subs := []) (ws := []) (ρ := []) (by kernel_rfl) ?_
  have w1 : IntKind.i64.wrap (s.b + 1) = s.b + 1 := by rw [IntKind.wrap_i64]; omega
  simp only [w1, List.length_map]
  repeat' (first | with_reducible exact True.intro | with_reducible refine And.intro ?_ ?_ | with_reducible refine condP_dec (fun _ => ?_) (fun _ => ?_) | with_reducible refine condP_eq (fun _ => ?_) (fun _ => ?_) | with_reducible refine condP_ne (fun _ => ?_) (fun _ => ?_) | with_reducible refine condP_not (condP_dec (fun _ => ?_) (fun _ => ?_)) | with_reducible refine condP_not (condP_eq (fun _ => ?_) (fun _ => ?_)) | with_reducible refine condP_not (condP_intro (fun _ => ?_) (fun _ => ?_)) | with_reducible refine condP_intro (fun _ => ?_) (fun _ => ?_))
  all_goals first | exact k1 | exact k2 | exact k3 | rfl | omega | exact dyes (by omega) | exact dno (by omega) | exact dyes hf | (refine congrArg D.bool ?_; simpa using hf) | (rw [hp]; rfl) | (simp [hp]; done) | exact ptD_sz _ | (simp [hp]; omega) | skip

set_option maxRecDepth 100000 in
set_option maxHeartbeats 1000000 in
theorem o35f (s : Rq) (hr : s.r.length < 1000000) (hl : s.p.length < 1000000) (h0 : 0 ≤ s.b) (h1 : s.b ≤ 1099511627776) (k : Int) (c : List UInt8) (hc : c.length = 1) (lim : Int) (k1 : FnOK Try.prog 47 [.d (rqD s)] [] (.d (.int .i64 lim)) []) (h : ¬k < s.b) (h2 : ¬k ≥ lim) (k2 : FnOK Try.prog 49 [.d (rqD s), .d (.int .i64 k)] [] (.d (.bool false)) []) (k3 : True) (h3 : ¬k > s.b) (f : Pt) (r : List Pt) (hp : s.p = f :: r) (hf : f.a ≠ s.b + 1) : FnOK Try.prog 46 ([.d (rqD s), .d (.int .i64 k), .d (.str c)]) ([]) (.tup [.d (rqD ⟨s.b + 1, s.r ++ c, s.p⟩), .d (.bool true)]) ([]) := by
  refine fnOK_wp (p := (D.bool (decide (k < s.b)) = D.bool false) ∧ ((D.bool false = D.bool false) ∧ ((FnOK Try.prog (47 : Nat) [AV.d (D.agg [D.int IntKind.i64 s.b, D.str s.r, D.sl (List.map ptD s.p)])] [] (AV.d (D.int IntKind.i64 lim)) []) ∧ ((D.bool (decide (k ≥ lim)) = D.bool false) ∧ ((D.bool false = D.bool false) ∧ ((FnOK Try.prog (49 : Nat) [AV.d (D.agg [D.int IntKind.i64 s.b, D.str s.r, D.sl (List.map ptD s.p)]), AV.d (D.int IntKind.i64 k)] [] (AV.d (D.bool false)) []) ∧ ((D.bool (decide (k > s.b)) = D.bool false) ∧ (((↑(s.r.length + c.length) : Int) ≤ (9223372036854775807 : Int)) ∧ ((D.bool (decide ((↑(List.map ptD s.p).length : Int) > (0 : Int))) = D.bool true) ∧ ((D.bool true = D.bool true) ∧ (((0 : Int) ≤ (0 : Int)) ∧ (((List.map ptD s.p)[(0 : Nat)]? = some (D.agg [D.int IntKind.i64 f.a, D.str f.d])) ∧ ((D.bool (f.a == IntKind.i64.wrap (s.b + (1 : Int))) = D.bool false) ∧ ((AV.tup [AV.d (D.agg [D.int IntKind.i64 (IntKind.i64.wrap (s.b + (1 : Int))), D.str (s.r ++ c), D.sl (List.map ptD s.p)]), AV.d (D.bool true)] = AV.tup [AV.d (D.agg [D.int IntKind.i64 (Rq.mk (s.b + (1 : Int)) (s.r ++ c) s.p).b, D.str (Rq.mk (s.b + (1 : Int)) (s.r ++ c) s.p).r, D.sl (List.map ptD (Rq.mk (s.b + (1 : Int)) (s.r ++ c) s.p).p)]), AV.d (D.bool true)]) ∧ (True))))))))))))))) (h := {H := [(1, [(3, .val (.bool false)), (8, .val (.bool false))]), (3, [(3, .val (.bool false))]), (8, [(3, .val (.bool true)), (12, .val (.bool false))])], G := [(47, gAns (.d (.int .i64 lim))), (49, gAns (.d (.bool false)))], els := [(50, .el (ptD f))]}) (subs := []) (ws := []) (ρ := []) (by kernel_rfl) ?_
  have w1 : IntKind.i64.wrap (s.b + 1) = s.b + 1 := by rw [IntKind.wrap_i64]; omega
  simp only [w1, List.length_map]
  have hpl : s.p.length = r.length + 1 := by rw [hp]; rfl
  repeat' (first | with_reducible exact True.intro | with_reducible refine And.intro ?_ ?_ | with_reducible refine condP_dec (fun _ => ?_) (fun _ => ?_) | with_reducible refine condP_eq (fun _ => ?_) (fun _ => ?_) | with_reducible refine condP_ne (fun _ => ?_) (fun _ => ?_) | with_reducible refine condP_not (condP_dec (fun _ => ?_) (fun _ => ?_)) | with_reducible refine condP_not (condP_eq (fun _ => ?_) (fun _ => ?_)) | with_reducible refine condP_not (condP_intro (fun _ => ?_) (fun _ => ?_)) | with_reducible refine condP_intro (fun _ => ?_) (fun _ => ?_))
  all_goals first | exact k1 | exact k2 | exact k3 | rfl | omega | exact dyes (by omega) | exact dno (by omega) | exact dyes hf | (refine congrArg D.bool ?_; simpa using hf) | (rw [hp]; rfl) | (simp [hp]; done) | exact ptD_sz _ | (simp [hp]; omega) | skip

set_option maxRecDepth 100000 in
set_option maxHeartbeats 1000000 in
theorem o35g (s : Rq) (hr : s.r.length < 1000000) (hl : s.p.length < 1000000) (h0 : 0 ≤ s.b) (h1 : s.b ≤ 1099511627776) (k : Int) (c : List UInt8) (hc : c.length = 1) (lim : Int) (k1 : FnOK Try.prog 47 [.d (rqD s)] [] (.d (.int .i64 lim)) []) (h : ¬k < s.b) (h2 : ¬k ≥ lim) (k2 : FnOK Try.prog 49 [.d (rqD s), .d (.int .i64 k)] [] (.d (.bool false)) []) (k3 : True) (h3 : ¬k > s.b) (f : Pt) (r : List Pt) (hp : s.p = f :: r) (hf : f.a = s.b + 1) (hfd : f.d.length < 1000000) : FnOK Try.prog 46 ([.d (rqD s), .d (.int .i64 k), .d (.str c)]) ([]) (.tup [.d (rqD ⟨s.b + 1 + f.d.length, s.r ++ c ++ f.d, r⟩), .d (.bool true)]) ([]) := by
  refine fnOK_wp (p := (D.bool (decide (k < s.b)) = D.bool false) ∧ ((D.bool false = D.bool false) ∧ ((FnOK Try.prog (47 : Nat) [AV.d (D.agg [D.int IntKind.i64 s.b, D.str s.r, D.sl (List.map ptD s.p)])] [] (AV.d (D.int IntKind.i64 lim)) []) ∧ ((D.bool (decide (k ≥ lim)) = D.bool false) ∧ ((D.bool false = D.bool false) ∧ ((FnOK Try.prog (49 : Nat) [AV.d (D.agg [D.int IntKind.i64 s.b, D.str s.r, D.sl (List.map ptD s.p)]), AV.d (D.int IntKind.i64 k)] [] (AV.d (D.bool false)) []) ∧ ((D.bool (decide (k > s.b)) = D.bool false) ∧ (((↑(s.r.length + c.length) : Int) ≤ (9223372036854775807 : Int)) ∧ ((D.bool (decide ((↑(List.map ptD s.p).length : Int) > (0 : Int))) = D.bool true) ∧ ((D.bool true = D.bool true) ∧ (((0 : Int) ≤ (0 : Int)) ∧ (((List.map ptD s.p)[(0 : Nat)]? = some (D.agg [D.int IntKind.i64 f.a, D.str f.d])) ∧ ((D.bool (f.a == IntKind.i64.wrap (s.b + (1 : Int))) = D.bool true) ∧ (((0 : Int) ≤ (0 : Int)) ∧ (((List.map ptD s.p)[(0 : Nat)]? = some (D.agg [D.int IntKind.i64 f.a, D.str f.d])) ∧ (((0 : Int) ≤ (0 : Int)) ∧ (((List.map ptD s.p)[(0 : Nat)]? = some (D.agg [D.int IntKind.i64 f.a, D.str f.d])) ∧ (((↑((s.r ++ c).length + f.d.length) : Int) ≤ (9223372036854775807 : Int)) ∧ (((0 : Int) ≤ (1 : Int) ∧ (1 : Int) ≤ (↑(List.map ptD s.p).length : Int) ∧ (↑(List.map ptD s.p).length : Int) ≤ (↑(List.map ptD s.p).length : Int)) ∧ ((∀ (e : D), e ∈ List.map ptD s.p → e.cells.length = (2 : Nat)) ∧ ((AV.tup [AV.d (D.agg [D.int IntKind.i64 (IntKind.i64.wrap (IntKind.i64.wrap (s.b + (1 : Int)) + (↑f.d.length : Int))), D.str (s.r ++ c ++ f.d), D.sl (List.drop (1 : Nat) (List.take (↑(List.map ptD s.p).length : Int).toNat (List.map ptD s.p)))]), AV.d (D.bool true)] = AV.tup [AV.d (D.agg [D.int IntKind.i64 (Rq.mk (s.b + (1 : Int) + (↑f.d.length : Int)) (s.r ++ c ++ f.d) r).b, D.str (Rq.mk (s.b + (1 : Int) + (↑f.d.length : Int)) (s.r ++ c ++ f.d) r).r, D.sl (List.map ptD (Rq.mk (s.b + (1 : Int) + (↑f.d.length : Int)) (s.r ++ c ++ f.d) r).p)]), AV.d (D.bool true)]) ∧ (True)))))))))))))))))))))) (h := {H := [(1, [(3, .val (.bool false)), (8, .val (.bool false))]), (3, [(3, .val (.bool false))]), (8, [(3, .val (.bool true)), (12, .val (.bool true))])], G := [(47, gAns (.d (.int .i64 lim))), (49, gAns (.d (.bool false)))], els := [(50, .el (ptD f)), (61, .el (ptD f)), (71, .el (ptD f))]}) (subs := []) (ws := []) (ρ := []) (by kernel_rfl) ?_
  have w1 : IntKind.i64.wrap (s.b + 1) = s.b + 1 := by rw [IntKind.wrap_i64]; omega
  simp only [w1, List.length_map]
  have hpl : s.p.length = r.length + 1 := by rw [hp]; rfl
  have w2 : IntKind.i64.wrap (s.b + 1 + f.d.length) = s.b + 1 + f.d.length := by rw [IntKind.wrap_i64]; omega
  have t1 : List.drop 1 (List.take ((s.p.length : Int)).toNat (s.p.map ptD)) = r.map ptD := by rw [Int.toNat_natCast, List.take_of_length_le (by simp), hp]; rfl
  have t2 : List.drop (Int.toNat 1) (List.take ((s.p.length : Int)).toNat (s.p.map ptD)) = r.map ptD := t1
  simp only [w2, t1, t2]
  repeat' (first | with_reducible exact True.intro | with_reducible refine And.intro ?_ ?_ | with_reducible refine condP_dec (fun _ => ?_) (fun _ => ?_) | with_reducible refine condP_eq (fun _ => ?_) (fun _ => ?_) | with_reducible refine condP_ne (fun _ => ?_) (fun _ => ?_) | with_reducible refine condP_not (condP_dec (fun _ => ?_) (fun _ => ?_)) | with_reducible refine condP_not (condP_eq (fun _ => ?_) (fun _ => ?_)) | with_reducible refine condP_not (condP_intro (fun _ => ?_) (fun _ => ?_)) | with_reducible refine condP_intro (fun _ => ?_) (fun _ => ?_))
  all_goals first | exact k1 | exact k2 | exact k3 | rfl | omega | exact dyes (by omega) | exact dno (by omega) | exact dyes hf | (refine congrArg D.bool ?_; simpa using hf) | (rw [hp]; rfl) | (simp [hp]; done) | exact ptD_sz _ | (simp [hp]; omega) | skip

end Go.Proofs.Ytfacpafkldmkcaa.C12
