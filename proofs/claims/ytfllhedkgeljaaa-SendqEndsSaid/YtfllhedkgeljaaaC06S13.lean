/-
laws 06, plain: the document's answers and the program's are one. No program.
-/
import Derived.Test.YtfllhedkgeljaaaC06S12
namespace Go.Proofs.Ytfllhedkgeljaaa.C06
open Sx Go.RowKit

/-! ### ends -/
theorem ins1_nil (v : Int) : ins1 [] v = [v] := rfl
theorem kOf_cons (u : Int) (o : List Int) (v : Int) : kOf (u :: o) v = if u < v then kOf o v + 1 else 0 := by
  unfold kOf
  rw [List.takeWhile_cons]
  by_cases h : u < v <;> simp [h]
theorem ins1_cons (u : Int) (o : List Int) (v : Int) : ins1 (u :: o) v = if u < v then u :: ins1 o v else if u = v then u :: o else v :: u :: o := by
  unfold ins1
  rw [kOf_cons]
  by_cases h : u < v
  · simp only [h, if_true, List.getElem?_cons_succ, List.take_succ_cons, List.drop_succ_cons]
    by_cases g : o[kOf o v]? = some v
    · rw [if_pos g, if_pos g]
    · rw [if_neg g, if_neg g]; rfl
  · simp only [h, if_false]
    by_cases g : u = v
    · simp [g]
    · simp [g]
theorem ins1_mem (v w : Int) : ∀ o : List Int, w ∈ ins1 o v ↔ w = v ∨ w ∈ o
  | [] => by simp [ins1_nil]
  | u :: o => by
    rw [ins1_cons]
    have ih := ins1_mem v w o
    by_cases h : u < v
    · rw [if_pos h, List.mem_cons, ih, List.mem_cons]; constructor <;> (intro h; rcases h with h | h | h <;> simp [h])
    · rw [if_neg h]
      by_cases g : u = v
      · rw [if_pos g, ← g, List.mem_cons]; simp
      · rw [if_neg g, List.mem_cons]
theorem ins1_srt (v : Int) : ∀ o : List Int, o.Pairwise (· < ·) → (ins1 o v).Pairwise (· < ·)
  | [], _ => by simp [ins1_nil]
  | u :: o, h => by
    rw [ins1_cons]
    have h1 := List.pairwise_cons.1 h
    by_cases g : u < v
    · rw [if_pos g]
      refine List.pairwise_cons.2 ⟨fun w hw => ?_, ins1_srt v o h1.2⟩
      rcases (ins1_mem v w o).1 hw with rfl | hw
      · exact g
      · exact h1.1 w hw
    · rw [if_neg g]
      by_cases k : u = v
      · rw [if_pos k]; exact h
      · rw [if_neg k]
        refine List.pairwise_cons.2 ⟨fun w hw => ?_, h⟩
        rcases List.mem_cons.1 hw with rfl | hw
        · omega
        · have := h1.1 w hw; omega
theorem insF_ok : ∀ (l o : List Int), o.Pairwise (· < ·) → (l.foldl ins1 o).Pairwise (· < ·) ∧ ∀ w, w ∈ l.foldl ins1 o ↔ w ∈ o ∨ w ∈ l
  | [], o, h => ⟨h, fun w => by simp⟩
  | v :: l, o, h => by
    obtain ⟨i1, i2⟩ := insF_ok l (ins1 o v) (ins1_srt v o h)
    refine ⟨i1, fun w => ?_⟩
    rw [List.foldl_cons, i2, ins1_mem, List.mem_cons]
    constructor
    · rintro ((h | h) | h) <;> simp [h]
    · rintro (h | h | h) <;> simp [h]
theorem flat_mem (w : Int) : ∀ s : List Iv, w ∈ flat s ↔ ∃ x ∈ s, w = x.1 ∨ w = x.2
  | [] => by simp [flat]
  | x :: s => by
    rw [flat_cons, List.mem_cons, List.mem_cons, flat_mem w s]
    constructor
    · rintro (h | h | ⟨y, hy, h⟩)
      · exact ⟨x, by simp, .inl h⟩
      · exact ⟨x, by simp, .inr h⟩
      · exact ⟨y, List.mem_cons_of_mem _ hy, h⟩
    · rintro ⟨y, hy, h⟩
      rcases List.mem_cons.1 hy with rfl | hy
      · rcases h with h | h
        · exact .inl h
        · exact .inr (.inl h)
      · exact .inr (.inr ⟨y, hy, h⟩)
theorem rEnds_ok (a b : List Iv) : (rEnds a b).Pairwise (· < ·) ∧ ∀ w, w ∈ rEnds a b ↔ (∃ x ∈ a, w = x.1 ∨ w = x.2) ∨ ∃ x ∈ b, w = x.1 ∨ w = x.2 := by
  obtain ⟨i1, i2⟩ := insF_ok (flat a ++ flat b) [] List.Pairwise.nil
  refine ⟨i1, fun w => ?_⟩
  show w ∈ (flat a ++ flat b).foldl ins1 [] ↔ _
  rw [i2, List.mem_append, flat_mem, flat_mem]
  simp
/-! ### kind -/
def segs (P : Int → Bool) : List Int → Int → Bool
  | u :: v :: r, n => (P u && decide (u ≤ n ∧ n < v)) || segs P (v :: r) n
  | _, _ => false
theorem dPut_eq {o : List Iv} {x : Iv} (hx : x.1 < x.2) (h : ∀ z ∈ o, z.2 ≤ x.1) : dPut o x = pPut o x := by
  rcases List.eq_nil_or_concat o with rfl | ⟨o, z, rfl⟩
  · rw [pPut_nil (by omega)]; rfl
  · rw [List.concat_eq_append] at *
    have hz := h z (by simp)
    by_cases g : z.2 < x.1
    · rw [dPut_n g, pPut_n (by omega) (by omega)]
    · rw [dPut_t g, pPut_t (by omega) (by omega), show max z.2 x.2 = x.2 by omega]
theorem kf_ok (P : Int → Bool) {M : Int} : ∀ (r : List Int) (u : Int) (o : List Iv), (u :: r).Pairwise (· < ·) → Srt (-1) o → (∀ z ∈ o, z.2 ≤ u) → -1 < u → (∀ w ∈ u :: r, w ≤ M) →
    Srt (-1) (kf P o (u :: r)) ∧ (∀ z ∈ kf P o (u :: r), z.2 ≤ M) ∧ ∀ n, has (kf P o (u :: r)) n = (has o n || segs P (u :: r) n)
  | [], u, o, _, h1, h2, _, h4 => ⟨h1, (fun z hz => by have h5 := h4 u (by simp); have := h2 z hz; omega), (fun n => by show has o n = (has o n || false); rw [Bool.or_false])⟩
  | v :: r, u, o, hs, h1, h2, h3, h4 => by
    have h5 := List.pairwise_cons.1 hs
    have huv : u < v := h5.1 v (by simp)
    have h6 : ∀ w ∈ v :: r, w ≤ M := fun w hw => h4 w (List.mem_cons_of_mem _ hw)
    show Srt (-1) (kf P (if P u = true then dPut o (u, v) else o) (v :: r)) ∧ _
    have e : ∀ n, segs P (u :: v :: r) n = ((P u && decide (u ≤ n ∧ n < v)) || segs P (v :: r) n) := fun n => rfl
    cases g : P u
    · rw [if_neg (by simp)]
      obtain ⟨i1, i2, i3⟩ := kf_ok P r v o h5.2 h1 (fun z hz => by have := h2 z hz; omega) (by omega) h6
      have ek : kf P o (u :: v :: r) = kf P o (v :: r) := by show kf P (if P u = true then _ else o) (v :: r) = _; rw [g]; rfl
      rw [ek]
      refine ⟨i1, i2, fun n => ?_⟩
      rw [i3, e, g]; rfl
    · rw [if_pos rfl, dPut_eq (x := (u, v)) huv h2]
      have hz : ∀ z ∈ o, z.1 ≤ u := fun z hz => by have := (srt_mem h1 z hz).2; have := h2 z hz; omega
      obtain ⟨b1, b2, b3, -⟩ := pPut_ok (x := (u, v)) huv (M := v) (Int.le_refl _) h1 (fun z hz => by have := h2 z hz; omega) hz h3
      obtain ⟨i1, i2, i3⟩ := kf_ok P r v (pPut o (u, v)) h5.2 b1 b2 (by omega) h6
      have ek : kf P o (u :: v :: r) = kf P (pPut o (u, v)) (v :: r) := by show kf P (if P u = true then _ else o) (v :: r) = _; rw [g, if_pos rfl, dPut_eq (x := (u, v)) huv h2]
      rw [ek]
      refine ⟨i1, i2, fun n => ?_⟩
      rw [i3, b3, e, g]
      show ((has o n || decide (u ≤ n ∧ n < v)) || segs P (v :: r) n) = (has o n || ((true && decide (u ≤ n ∧ n < v)) || segs P (v :: r) n))
      rw [Bool.true_and, Bool.or_assoc]
theorem segs_ok {P : Int → Bool} {E : List Int} (hc : ∀ u n, u ≤ n → (∀ w ∈ E, ¬(u < w ∧ w ≤ n)) → P n = P u) (hl : ∀ n, (∀ w ∈ E, w ≤ n) → P n = false) (n : Int) : ∀ (r : List Int) (u : Int), (u :: r).Pairwise (· < ·) → (∀ w ∈ E, w ≤ u ∨ w ∈ r) → segs P (u :: r) n = (decide (u ≤ n) && P n)
  | [], u, _, hE => by
    show false = _
    by_cases g : u ≤ n
    · rw [hl n (fun w hw => by rcases hE w hw with h | h; omega; cases h), Bool.and_false]
    · rw [decide_eq_false g]; rfl
  | v :: r, u, hs, hE => by
    have h5 := List.pairwise_cons.1 hs
    have huv : u < v := h5.1 v (by simp)
    have ih := segs_ok hc hl n r v h5.2 (fun w hw => by
      rcases hE w hw with h | h
      · exact .inl (by omega)
      · rcases List.mem_cons.1 h with rfl | h
        · exact .inl (Int.le_refl _)
        · exact .inr h)
    show ((P u && decide (u ≤ n ∧ n < v)) || segs P (v :: r) n) = _
    rw [ih]
    by_cases g : u ≤ n
    · by_cases k : n < v
      · rw [decide_eq_true (p := u ≤ n ∧ n < v) ⟨g, k⟩, decide_eq_false (p := v ≤ n) (by omega), decide_eq_true g, hc u n g (fun w hw => by
          rcases hE w hw with h | h
          · omega
          · rcases List.mem_cons.1 h with rfl | h
            · omega
            · have := (List.pairwise_cons.1 h5.2).1 w h; omega)]
        cases P u <;> rfl
      · rw [decide_eq_false (p := u ≤ n ∧ n < v) (by omega), decide_eq_true (p := v ≤ n) (by omega), decide_eq_true g]
        cases P u <;> cases P n <;> rfl
    · rw [decide_eq_false (p := u ≤ n ∧ n < v) (by omega), decide_eq_false (p := v ≤ n) (by omega), decide_eq_false g]
      cases P u <;> rfl
theorem has_same {u n : Int} (h : u ≤ n) : ∀ {a : List Iv}, (∀ x ∈ a, ¬(u < x.1 ∧ x.1 ≤ n) ∧ ¬(u < x.2 ∧ x.2 ≤ n)) → has a n = has a u
  | [], _ => rfl
  | x :: a, g => by
    have gx := g x (by simp)
    rw [has_cons, has_cons, has_same h (fun y hy => g y (List.mem_cons_of_mem _ hy))]
    congr 1
    exact decide_eq_decide.2 (by omega)
theorem has_no {n : Int} {a : List Iv} (h : ∀ x ∈ a, n < x.1 ∨ x.2 ≤ n) : has a n = false := by
  cases q : has a n
  · rfl
  · obtain ⟨x, hx, h1⟩ := has_iff.1 q
    have := h x hx
    omega
theorem kind_ok {a b : List Iv} (ha : Ok a) (hb : Ok b) {how : Int} (h0 : kindB how false false = false) : Ok (rKind a b how) ∧ ∀ n, has (rKind a b how) n = kindB how (has a n) (has b n) := by
  obtain ⟨e1, e2⟩ := rEnds_ok a b
  have hin : ∀ w ∈ rEnds a b, -1 < w ∧ w ≤ 4611686018427387903 := fun w hw => by
    rcases (e2 w).1 hw with ⟨x, hx, h⟩ | ⟨x, hx, h⟩
    · have := srt_mem ha.srt x hx; have := ha.up x hx; omega
    · have := srt_mem hb.srt x hx; have := hb.up x hx; omega
  have hc : ∀ u n, u ≤ n → (∀ w ∈ rEnds a b, ¬(u < w ∧ w ≤ n)) → kindB how (has a n) (has b n) = kindB how (has a u) (has b u) := fun u n h g => by
    rw [has_same h (a := a) (fun x hx => ⟨g _ ((e2 _).2 (.inl ⟨x, hx, .inl rfl⟩)), g _ ((e2 _).2 (.inl ⟨x, hx, .inr rfl⟩))⟩), has_same h (a := b) (fun x hx => ⟨g _ ((e2 _).2 (.inr ⟨x, hx, .inl rfl⟩)), g _ ((e2 _).2 (.inr ⟨x, hx, .inr rfl⟩))⟩)]
  have hl : ∀ n, (∀ w ∈ rEnds a b, w ≤ n) → kindB how (has a n) (has b n) = false := fun n g => by
    rw [has_no (a := a) (fun x hx => .inr (g _ ((e2 _).2 (.inl ⟨x, hx, .inr rfl⟩)))), has_no (a := b) (fun x hx => .inr (g _ ((e2 _).2 (.inr ⟨x, hx, .inr rfl⟩))))]
    exact h0
  have hf : ∀ n, (∀ w ∈ rEnds a b, n < w) → kindB how (has a n) (has b n) = false := fun n g => by
    rw [has_no (a := a) (fun x hx => .inl (g _ ((e2 _).2 (.inl ⟨x, hx, .inl rfl⟩)))), has_no (a := b) (fun x hx => .inl (g _ ((e2 _).2 (.inr ⟨x, hx, .inl rfl⟩))))]
    exact h0
  unfold rKind
  generalize hP : (fun u => kindB how (has a u) (has b u)) = P
  have hP' : ∀ u, kindB how (has a u) (has b u) = P u := fun u => congrFun hP u
  simp only [hP'] at hc hl hf ⊢
  generalize rEnds a b = e at *
  cases e with
  | nil =>
    refine ⟨⟨trivial, fun x hx => by cases hx⟩, fun n => ?_⟩
    rw [hl n (fun w hw => by cases hw)]
    rfl
  | cons u r =>
    obtain ⟨i1, i2, i3⟩ := kf_ok P (M := 4611686018427387903) r u [] e1 trivial (fun z hz => by cases hz) (hin u (by simp)).1 (fun w hw => (hin w hw).2)
    refine ⟨⟨i1, i2⟩, fun n => ?_⟩
    rw [i3, segs_ok hc hl n r u e1 (fun w hw => by
      rcases List.mem_cons.1 hw with rfl | hw
      · exact .inl (Int.le_refl _)
      · exact .inr hw)]
    show (false || (decide (u ≤ n) && P n)) = P n
    by_cases g : u ≤ n
    · rw [decide_eq_true g]; simp
    · rw [decide_eq_false g, hf n (fun w hw => by
        rcases List.mem_cons.1 hw with rfl | hw
        · omega
        · have := (List.pairwise_cons.1 e1).1 w hw; omega)]
      rfl
/-! ### The two sides -/
theorem one_has {x : Iv} (hm : mayB x = true) : Ok (rOne x) ∧ ∀ n, has (rOne x) n = inV x n := by
  unfold rOne
  by_cases h : x.2 ≤ x.1
  · rw [if_pos h]
    exact ⟨⟨trivial, fun x hx => by cases hx⟩, fun n => by symm; exact decide_eq_false (by omega)⟩
  · rw [if_neg h]
    exact ⟨one_ok hm (decide_eq_false h), fun n => by simp [has, inV]⟩
theorem nop_eq (s : List Iv) (x : Iv) : nop s x = (dNop s x || noneB x) := by
  unfold nop dNop
  cases mayB x <;> cases noneB x <;> cases (iChk s == 0) <;> rfl
theorem inV_none {x : Iv} (h : noneB x = true) (n : Int) : inV x n = false := decide_eq_false (by have := of_decide_eq_true h; omega)
theorem add_same (s : List Iv) (x : Iv) : rAdd s x = dAdd s x := by
  unfold dAdd
  cases h : dNop s x
  · rw [if_neg (by simp)]
    obtain ⟨h1, h2⟩ := dNop_no h
    have ok := iChk_iff.1 h1
    obtain ⟨o1, o2⟩ := one_has h2
    obtain ⟨k1, k2⟩ := kind_ok ok o1 (how := 0) rfl
    cases g : noneB x
    · obtain ⟨a1, a2⟩ := add_ok ok h2 g
      refine ok_inj a1 k1 fun n => ?_
      rw [a2, k2, o2]
      cases has s n <;> cases inV x n <;> rfl
    · have e : rAdd s x = s := by unfold rAdd; rw [nop_eq, g, Bool.or_true, if_pos rfl]
      rw [e]
      refine ok_inj ok k1 fun n => ?_
      rw [k2, o2, inV_none g]
      cases has s n <;> rfl
  · unfold rAdd; rw [nop_eq, h, Bool.true_or, if_pos rfl, if_pos rfl]
theorem cut_same (s : List Iv) (x : Iv) : rCut s x = dCut s x := by
  unfold dCut
  cases h : dNop s x
  · rw [if_neg (by simp)]
    obtain ⟨h1, h2⟩ := dNop_no h
    have ok := iChk_iff.1 h1
    obtain ⟨o1, o2⟩ := one_has h2
    obtain ⟨k1, k2⟩ := kind_ok ok o1 (how := 1) rfl
    cases g : noneB x
    · obtain ⟨a1, a2, -⟩ := cut_ok ok h2 g
      refine ok_inj a1 k1 fun n => ?_
      rw [a2, k2, o2]
      show (has s n && !inV x n) = _
      cases has s n <;> cases inV x n <;> rfl
    · have e : rCut s x = s := by unfold rCut; rw [nop_eq, g, Bool.or_true, if_pos rfl]
      rw [e]
      refine ok_inj ok k1 fun n => ?_
      rw [k2, o2, inV_none g]
      cases has s n <;> rfl
  · unfold rCut; rw [nop_eq, h, Bool.true_or, if_pos rfl, if_pos rfl]
theorem gaps_ok {s : List Iv} (ok : Ok s) {x : Iv} (h2 : mayB x = true) : Ok (rGaps s x) ∧ ∀ n, has (rGaps s x) n = (inV x n && !has s n) := by
  unfold rGaps
  rw [nop_eq, show dNop s x = false by unfold dNop; rw [iChk_iff.2 ok, h2]; rfl, Bool.false_or]
  cases g : noneB x
  · rw [if_neg (by simp)]
    obtain ⟨g1, g2, -⟩ := gaps_fold (s := s) (fun y hy => ok_may ok hy) (one_ok h2 g)
    exact ⟨g1, fun n => by rw [g2]; simp [has, inV]⟩
  · rw [if_pos rfl]
    exact ⟨⟨trivial, fun x hx => by cases hx⟩, fun n => by rw [inV_none g]; rfl⟩
theorem gaps_same (s : List Iv) (x : Iv) : rGaps s x = dGaps s x := by
  unfold dGaps
  cases h : dNop s x
  · rw [if_neg (by simp)]
    obtain ⟨h1, h2⟩ := dNop_no h
    have ok := iChk_iff.1 h1
    obtain ⟨o1, o2⟩ := one_has h2
    obtain ⟨k1, k2⟩ := kind_ok o1 ok (how := 1) rfl
    obtain ⟨a1, a2⟩ := gaps_ok ok h2
    refine ok_inj a1 k1 fun n => ?_
    rw [a2, k2, o2]
    cases has s n <;> cases inV x n <;> rfl
  · unfold rGaps; rw [nop_eq, h, Bool.true_or, if_pos rfl, if_pos rfl]
theorem meet_same (a b : List Iv) : rMeet a b = dMeet a b := by
  cases h : (!(iChk a == 0) || !(iChk b == 0))
  · have h' := h
    simp only [Bool.or_eq_false_iff, Bool.not_eq_false', beq_iff_eq] at h'
    have oa := iChk_iff.1 h'.1
    have ob := iChk_iff.1 h'.2
    obtain ⟨m1, m2⟩ := meet_ok oa ob
    obtain ⟨k1, k2⟩ := kind_ok oa ob (how := 2) rfl
    have e : dMeet a b = rKind a b 2 := by unfold dMeet; rw [h]; rfl
    rw [e]
    refine ok_inj m1 k1 fun n => ?_
    rw [m2, k2]
    cases has a n <;> cases has b n <;> rfl
  · unfold rMeet dMeet; rw [h, if_pos rfl, if_pos rfl]
/-! ### Holds, First -/
theorem fold_no {n : Int} : ∀ {s : List Iv}, has s n = false → s.foldl stp n = n
  | [], _ => rfl
  | y :: s, h => by
    rw [has_cons, Bool.or_eq_false_iff] at h
    have hy := of_decide_eq_false h.1
    rw [List.foldl_cons, show stp n y = n by unfold stp; rw [if_neg (by omega)]]
    exact fold_no h.2
def adv (s : List Iv) (n : Int) : Int := if (fnd s n).2 = true then (fnd s n).1.2 else n
theorem fnd_cons (y : Iv) (s : List Iv) (n : Int) : fnd (y :: s) n = if inI n y = true then (y, true) else fnd s n := by
  unfold fnd
  rw [List.find?_cons]
  cases inI n y <;> rfl
theorem fold_adv {n : Int} : ∀ {s : List Iv} {e : Int}, Srt e s → s.foldl stp n = adv s n
  | [], _, _ => rfl
  | y :: s, e, h => by
    rw [List.foldl_cons]
    unfold adv
    rw [fnd_cons]
    by_cases g : y.1 ≤ n ∧ n < y.2
    · rw [show inI n y = true from decide_eq_true g, if_pos rfl, if_pos rfl, show stp n y = y.2 by unfold stp; rw [if_pos (by omega)]]
      exact fold_no (srt_low h.2 (Int.le_refl _))
    · rw [show inI n y = false from decide_eq_false g, if_neg (c := false = true) (by simp), show stp n y = n by unfold stp; rw [if_neg (by omega)]]
      exact fold_adv h.2
theorem srt_end : ∀ {s : List Iv} {e : Int}, Srt e s → ∀ y ∈ s, has s y.2 = false
  | [], _, _, y, hy => by cases hy
  | z :: s, e, h, y, hy => by
    rw [has_cons, Bool.or_eq_false_iff]
    rcases List.mem_cons.1 hy with rfl | hy
    · exact ⟨decide_eq_false (by omega), srt_low h.2 (Int.le_refl _)⟩
    · have := srt_mem h.2 y hy
      exact ⟨decide_eq_false (by omega), srt_end h.2 y hy⟩
theorem fnd_mem {s : List Iv} {n : Int} (h : (fnd s n).2 = true) : (fnd s n).1 ∈ s ∧ (fnd s n).1.1 ≤ n ∧ n < (fnd s n).1.2 := by
  revert h
  unfold fnd
  cases h : s.find? (inI n) with
  | none => intro h; cases h
  | some y =>
    intro _
    have h2 : inI n y = true := List.find?_some h
    exact ⟨List.mem_of_find?_eq_some h, of_decide_eq_true h2⟩
theorem adv_no {s : List Iv} {n : Int} (h : has s n = false) : adv s n = n := by
  unfold adv
  have e : (fnd s n).2 = false := (rHas_eq s n).trans h
  rw [e]; rfl
theorem has_adv {s : List Iv} {e : Int} (h : Srt e s) (n : Int) : has s (adv s n) = false := by
  unfold adv
  by_cases g : (fnd s n).2 = true
  · rw [if_pos g]; exact srt_end h _ (fnd_mem g).1
  · rw [if_neg g]
    have := rHas_eq s n
    unfold rHas at this
    rw [← this]; simpa using g
theorem itR_adv {s : List Iv} {e : Int} (h : Srt e s) (n : Int) : ∀ k, itR s n (k + 1) = adv s n
  | 0 => fold_adv h
  | k + 1 => by
    show s.foldl stp (itR s n (k + 1)) = _
    rw [itR_adv h n k, fold_adv h, adv_no (has_adv h n)]
theorem holds_same {s : List Iv} (ok : Ok s) (x : Iv) : rHolds s x = decide (itR s x.1 (s.length + 1) ≥ x.2) := by
  rw [itR_adv ok.srt]
  unfold rHolds adv
  cases g : (fnd s x.1).2
  · rw [if_neg (by simp), Bool.false_and, Bool.or_false]; rfl
  · rw [if_pos rfl, Bool.true_and]
    have := (fnd_mem g).2
    cases k : noneB x
    · rfl
    · have := of_decide_eq_true k
      rw [decide_eq_true (p := (fnd s x.1).1.2 ≥ x.2) (by omega)]; rfl
theorem first_same {s : List Iv} (ok : Ok s) (n : Int) : rFirst s n = itR s (max 0 n) (s.length + 1) := by
  rw [itR_adv ok.srt, show max 0 n = max n 0 by omega]
  rfl
end Go.Proofs.Ytfllhedkgeljaaa.C06
