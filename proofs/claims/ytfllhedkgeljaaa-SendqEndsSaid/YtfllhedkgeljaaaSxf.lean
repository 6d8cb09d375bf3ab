/-
One operation, on abstract values, says what the operation does in memory: struct literals, new memory, stores. No condition.
-/
import Derived.Test.YtfllhedkgeljaaaSxe
set_option linter.unusedSimpArgs false
set_option linter.unusedVariables false
namespace Go.Proofs.Ytfllhedkgeljaaa
namespace Sx
open Go.RowKit
section
variable {P : Program} {O : Nat → Ob} {β : Nat → HE} {X : Nat → Prop} {w : World} {look : Nat → Ob}

/-- Cells that stand for abstract cells. -/
structure CR (O : Nat → Ob) (β : Nat → HE) (X : Nat → Prop) (w : World) (cs : List AV) (vs : Array Value) : Prop where
  size : vs.size = cs.length
  at_ : ∀ j x, cs[j]? = some x → AR O β X w x (vs.getD j undef)

theorem CR.one {x : AV} {v : Value} (h : AR O β X w x v) : CR O β X w [x] #[v] := by
  refine ⟨rfl, fun j y hj => ?_⟩
  cases j with
  | zero => cases hj; exact h
  | succ j => simp at hj

theorem one_cells {v : Value} (h : v.oneCell' = true) : v.cells = #[v] := by cases v <;> first | rfl | (cases h)

theorem cells_ok {x : AV} {v : Value} {cs : List AV} (h : x.cells = some cs) (hx : AR O β X w x v) : CR O β X w cs v.cells := by
  unfold AV.cells at h
  split at h
  · next ds =>
    cases h
    obtain ⟨vs, rfl, hl, -, hr⟩ := agg_inv hx
    refine ⟨by simpa [Value.cells] using hl, fun j x hj => ?_⟩
    rw [List.getElem?_map] at hj
    cases hd : ds[j]? with
    | none => rw [hd] at hj; cases hj
    | some d => rw [hd] at hj; cases hj; exact .d _ _ (hr j d hd)
  · cases h; obtain rfl := hx.d_inv.int_inv; exact CR.one hx
  · cases h; obtain rfl := hx.d_inv.bool_inv; exact CR.one hx
  · cases h; obtain rfl := hx.d_inv.str_inv; exact CR.one hx
  · cases h
    have h1 := hx.d_inv
    cases h1 with
    | nil a c => exact CR.one hx
    | sl es a c sz f => exact CR.one hx
  · cases h
    cases hx with
    | agg cs vs hl hr => exact ⟨hl, hr⟩
  · cases h
  · cases h
  · next u h1 h2 =>
    cases h
    obtain rfl := hx.raw_inv
    have : v.cells = #[v] := by cases v <;> first | rfl | (exact absurd rfl (h1 _))
    rw [this]
    exact CR.one hx
  · cases h
  · cases h
  · next h1 h2 h3 h4 h5 h6 h7 h8 h9 h10 h11 =>
    cases h
    have hc : v.cells = #[v] := by
      cases hx with
      | d d _ hd => cases d <;> simp_all
      | raw v => cases v <;> simp_all
      | ptr o off v hC hone hv => exact one_cells hone
      | rptr o sz i off v hC hone hv => exact one_cells hone
      | eptr e off p f => rfl
      | own o sz v hC hone hv => exact one_cells hone
      | sub o sz lo n v hC hone hv => exact one_cells hone
      | agg cs vs hl hr => simp_all
      | tup cs vs hl hr => simp_all
      | fn f cs vs => rfl
      | meth f cs vs => rfl
      | dead v => simp_all
    rw [hc]
    exact CR.one hx

theorem setAt_length {α : Type} {old cs : List α} {off : Nat} (h : off + cs.length ≤ old.length) : (setAt old off cs).length = old.length := by
  simp [setAt]; omega
theorem setAt_get {α : Type} {old cs : List α} {off : Nat} (h : off + cs.length ≤ old.length) (j : Nat) :
    (setAt old off cs)[j]? = if off ≤ j ∧ j < off + cs.length then cs[j - off]? else old[j]? := by
  unfold setAt
  rw [List.append_assoc]
  by_cases h1 : j < off
  · rw [List.getElem?_append_left (by simp; omega), List.getElem?_take_of_lt h1, if_neg (by omega)]
  · rw [List.getElem?_append_right (by simp; omega)]
    have e : (old.take off).length = off := by simp; omega
    rw [e]
    by_cases h2 : j < off + cs.length
    · rw [List.getElem?_append_left (by omega), if_pos (by omega)]
    · rw [List.getElem?_append_right (by omega), if_neg (by omega), List.getElem?_drop]
      congr 1
      omega

/-- Writing cells one by one. -/
theorem foldSet (vs : List Value) : ∀ (i off : Nat) (cells : Array Value), ((vs.zipIdx i).foldl (fun cs (p : Value × Nat) => cs.setIfInBounds (off + p.2) p.1) cells).size = cells.size ∧
    ∀ j, ((vs.zipIdx i).foldl (fun cs (p : Value × Nat) => cs.setIfInBounds (off + p.2) p.1) cells)[j]? = if off + i ≤ j ∧ j < off + i + vs.length ∧ j < cells.size then vs[j - (off + i)]? else cells[j]? := by
  induction vs with
  | nil => intro i off cells; exact ⟨rfl, fun j => by simp; intro h1 h2; omega⟩
  | cons v r ih =>
    intro i off cells
    simp only [List.zipIdx_cons, List.foldl_cons]
    obtain ⟨h1, h2⟩ := ih (i + 1) off (cells.setIfInBounds (off + i) v)
    refine ⟨by rw [h1]; simp, fun j => ?_⟩
    rw [h2 j]
    simp only [Array.size_setIfInBounds, List.length_cons, Array.getElem?_setIfInBounds]
    by_cases hj : off + i = j
    · subst hj
      by_cases hs : off + i < cells.size
      · simp [hs]; omega
      · simp [hs]
    · by_cases hc : off + (i + 1) ≤ j ∧ j < off + (i + 1) + r.length ∧ j < cells.size
      · rw [if_pos hc, if_pos (by omega), show j - (off + i) = (j - (off + (i + 1))) + 1 by omega, List.getElem?_cons_succ]
      · rw [if_neg hc, if_neg hj, if_neg (by omega)]

theorem CR.setAt {cs ds : List AV} {vs us : Array Value} {off : Nat} (h : CR O β X w cs vs) (k : CR O β X w ds us) (hf : off + ds.length ≤ cs.length) :
    CR O β X w (setAt cs off ds) (us.zipIdx.foldl (fun c (p : Value × Nat) => c.setIfInBounds (off + p.2) p.1) vs) := by
  have e : us.zipIdx.foldl (fun c (p : Value × Nat) => c.setIfInBounds (off + p.2) p.1) vs = (us.toList.zipIdx 0).foldl (fun c (p : Value × Nat) => c.setIfInBounds (off + p.2) p.1) vs := by
    rw [← Array.foldl_toList, Array.toList_zipIdx]
  rw [e]
  obtain ⟨h1, h2⟩ := foldSet us.toList 0 off vs
  refine ⟨by rw [h1, h.size, setAt_length hf], fun j x hj => ?_⟩
  have e2 := h2 j
  rw [setAt_get hf] at hj
  simp only [Nat.add_zero, Array.length_toList] at e2
  have hus := k.size
  have hvs := h.size
  rw [Array.getD_eq_getD_getElem?, e2]
  by_cases hc : off ≤ j ∧ j < off + ds.length
  · rw [if_pos hc] at hj
    rw [if_pos (by omega)]
    have := k.at_ _ _ hj
    rw [Array.getD_eq_getD_getElem?] at this
    simpa using this
  · rw [if_neg hc] at hj
    rw [if_neg (by omega)]
    have := h.at_ _ _ hj
    rwa [Array.getD_eq_getD_getElem?] at this

theorem fill_ok {place : Nat → Option (Nat × Nat)} {parts : List (Nat × AV)} {vparts : List (Nat × Value)} {cs cs' : List AV} {vs : Array Value} (h : fillAV place cs parts = some cs') (hc : CR O β X w cs vs)
    (hp : Fa (fun (p : Nat × AV) (q : Nat × Value) => p.1 = q.1 ∧ AR O β X w p.2 q.2) parts vparts) : ∃ vs', Instr.fill place vs vparts = some vs' ∧ CR O β X w cs' vs' := by
  induction hp generalizing cs vs with
  | nil => cases h; exact ⟨vs, rfl, hc⟩
  | @cons p q l m hpq hr ih =>
    obtain ⟨i, x⟩ := p
    obtain ⟨i', v⟩ := q
    obtain ⟨rfl, hx⟩ := hpq
    unfold fillAV at h
    split at h
    · next off size cx hpl hcx =>
      split at h
      · next hfit =>
        have hk := cells_ok hcx hx
        obtain ⟨vs', h1, h2⟩ := ih h (hc.setAt hk (by omega))
        refine ⟨vs', ?_, h2⟩
        unfold Instr.fill
        rw [hpl]
        have e1 : v.cells.size = cx.length := hk.size
        have e2 := hc.size
        show (if (decide (v.cells.size ≠ size) || decide (off + v.cells.size > vs.size)) = true then none else _) = _
        rw [if_neg]
        · exact h1
        · simp only [Bool.or_eq_true, decide_eq_true_eq, not_or]
          omega
      · cases h
    · cases h

theorem constAV_ok (v : Value) : AR O β X w (constAV v) v := by
  unfold constAV
  split
  · exact .d _ _ (.int _ _)
  · exact .d _ _ (.bool _)
  · next s => exact .d _ _ (by obtain ⟨⟨l⟩⟩ := s; exact .str l)
  · exact .raw _

theorem zeroC_ok {T : TypeId} {cs : List AV} (h : zeroC P T = some cs) : ∃ v, (zeroValue T).run P w = .ok v w ∧ CR O β X w cs v.cells := by
  unfold zeroC at h
  split at h
  · next i hi =>
    split at h
    · next v hv =>
      cases h
      refine ⟨v, by simp [zeroValue, typeInfo, hi, hv], by simp, fun j x hj => ?_⟩
      rw [List.getElem?_map] at hj
      cases hd : v.cells.toList[j]? with
      | none => rw [hd] at hj; cases hj
      | some u =>
        rw [hd] at hj; cases hj
        have : v.cells.getD j undef = u := by
          rw [Array.getD_eq_getD_getElem?, ← Array.getElem?_toList, hd]; rfl
        rw [this]
        exact constAV_ok u
    · cases h
  · cases h

theorem places_ok {fs : List Field} (h : fs.all (fun f => (szT P f.type).isSome) = true) : (fs.mapM fun f => (do pure (f.offset, ← sizeOf f.type) : Sem (Nat × Nat))).run P w =
    .ok (fs.map fun f => (f.offset, (szT P f.type).getD 0)) w := by
  induction fs with
  | nil => simp
  | cons f r ih =>
    simp only [List.all_cons, Bool.and_eq_true] at h
    obtain ⟨n, hn⟩ := Option.isSome_iff_exists.1 h.1
    simp only [List.mapM_cons, Sem.run_bind, szT_run hn, Result.andThen_ok, Sem.run_pure, ih h.2, List.map_cons, hn, Option.getD_some]

theorem fill_place_congr {p q : Nat → Option (Nat × Nat)} (h : ∀ i, p i = q i) (vs : Array Value) (l : List (Nat × Value)) : Instr.fill p vs l = Instr.fill q vs l := by
  have : p = q := funext h
  rw [this]

theorem actBuild_ok {T : TypeId} {parts : List (Nat × AV)} {vparts : Array (Nat × Value)} {e : Eff} (hp : Fa (fun (p : Nat × AV) (q : Nat × Value) => p.1 = q.1 ∧ AR O β X w p.2 q.2) parts vparts.toList)
    (ha : actBuild P T parts = some e) : ∃ v, (Instr.build T vparts).run P w = .ok v w ∧ AR O β X w e.val v ∧ e.wr = [] := by
  unfold actBuild at ha
  split at ha
  · next fs z hu hz =>
    obtain ⟨v0, hv0, hc0⟩ := zeroC_ok (O := O) (β := β) (X := X) (w := w) hz
    split at ha
    · next hall =>
      split at ha
      · next cs hf =>
        cases ha
        obtain ⟨vs', h1, h2⟩ := fill_ok hf hc0 hp
        refine ⟨.agg vs', ?_, mkAgg_ok h2.size h2.at_, rfl⟩
        have hm : (fs.mapM fun f => (do pure (f.offset, ← sizeOf f.type) : Sem (Nat × Nat))).run P w = .ok (fs.toList.map fun f => (f.offset, (szT P f.type).getD 0)).toArray w := by
          have h3 := places_ok (P := P) (w := w) hall
          rw [Array.mapM_eq_mapM_toList]
          simp only [Sem.run_map, h3, Result.andThen_ok]
        have hpl : ∀ i, (fs.toList.map fun f => (f.offset, (szT P f.type).getD 0)).toArray[i]? = placeF P fs i := by
          intro i
          simp only [List.getElem?_toArray, List.getElem?_map, placeF, Array.getElem?_toList]
          cases hfi : fs[i]? with
          | none => rfl
          | some f =>
            have hmem : f ∈ fs.toList := by
              have := Array.mem_of_getElem? hfi
              simpa using this
            obtain ⟨n, hn⟩ := Option.isSome_iff_exists.1 (List.all_eq_true.1 hall f hmem)
            simp [hn]
        simp only [Instr.build, Sem.run_bind, hv0, Result.andThen_ok, run_underlying hu, hm]
        rw [fill_place_congr hpl, h1]
        rfl
      · cases ha
    · cases ha
  · next n elem z hu hz =>
    obtain ⟨v0, hv0, hc0⟩ := zeroC_ok (O := O) (β := β) (X := X) (w := w) hz
    split at ha
    · next sz hsz =>
      split at ha
      · next cs hf =>
        cases ha
        obtain ⟨vs', h1, h2⟩ := fill_ok hf hc0 hp
        refine ⟨.agg vs', ?_, mkAgg_ok h2.size h2.at_, rfl⟩
        simp only [Instr.build, Sem.run_bind, hv0, Result.andThen_ok, run_underlying hu, szT_run hsz]
        rw [h1]
        rfl
      · cases ha
    · cases ha
  · cases ha
end
end Sx
end Go.Proofs.Ytfllhedkgeljaaa
