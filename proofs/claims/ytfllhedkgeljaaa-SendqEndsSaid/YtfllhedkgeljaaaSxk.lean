/-
A call by a contract. No condition.
-/
import Derived.Test.YtfllhedkgeljaaaSxj
set_option linter.unusedSimpArgs false
set_option linter.unusedVariables false
namespace Go.Proofs.Ytfllhedkgeljaaa
namespace Sx
open Go.RowKit
section
variable {P : Program} {O : Nat → Ob} {β : Nat → HE} {X : Nat → Prop} {w : World} {look : Nat → Ob}

theorem zip_other {f : Nat → Nat} {n : Nat} : ∀ (l : List Ob) (k : Nat) (O : Nat → Ob), (∀ i, i < l.length → f (k + i) ≠ n) → updL O (zipFrom f k l) n = O n
  | [], _, _, _ => rfl
  | x :: r, k, O, h => by
    simp only [zipFrom, updL]
    rw [zip_other r (k + 1) _ (fun i hi => by have := h (i + 1) (by simp; omega); rwa [show k + (i + 1) = k + 1 + i by omega] at this)]
    exact upd_other _ _ (Ne.symm (by simpa using h 0 (by simp)))
theorem zip_at {f : Nat → Nat} : ∀ (l : List Ob) (k : Nat) (O : Nat → Ob) (i : Nat), (∀ i j, i < l.length → j < l.length → f (k + i) = f (k + j) → i = j) → ∀ x, l[i]? = some x → updL O (zipFrom f k l) (f (k + i)) = x
  | [], _, _, i, _, x, hx => by simp at hx
  | y :: r, k, O, i, h, x, hx => by
    simp only [zipFrom, updL]
    cases i with
    | zero =>
      cases hx
      rw [zip_other r (k + 1) _ (fun i hi he => by
        have := h (i + 1) 0 (by simp; omega) (by simp) (by rw [show k + (i + 1) = k + 1 + i by omega]; simpa using he)
        omega)]
      exact upd_same _ _ _
    | succ i =>
      have := zip_at r (k + 1) (upd O (f k) y) i (fun a b ha hb he => by
        have := h (a + 1) (b + 1) (by simp; omega) (by simp; omega) (by rw [show k + (a + 1) = k + 1 + a by omega, show k + (b + 1) = k + 1 + b by omega]; exact he)
        omega) x (by simpa using hx)
      rw [show k + (i + 1) = k + 1 + i by omega]
      exact this

theorem newName_inj {d a b : Nat} (h : newName d a = newName d b) : a = b := by unfold newName at h; omega

theorem flatL_get {cs : List AV} (h : AV.flatL cs = true) {j : Nat} {x : AV} (hj : cs[j]? = some x) : x.flat = true := by
  induction cs generalizing j with
  | nil => simp at hj
  | cons c r ih =>
    simp only [AV.flatL, Bool.and_eq_true] at h
    cases j with
    | zero => cases hj; exact h.1
    | succ j => exact ih h.2 hj
theorem dflatL_get {cs : List D} (h : D.flatL cs = true) {j : Nat} {x : D} (hj : cs[j]? = some x) : (∃ k n, x = .int k n) ∨ (∃ b, x = .bool b) ∨ (∃ s, x = .str s) := by
  induction cs generalizing j with
  | nil => simp at hj
  | cons c r ih =>
    cases j with
    | zero =>
      cases hj
      cases x with
      | int k n => exact .inl ⟨k, n, rfl⟩
      | bool b => exact .inr (.inl ⟨b, rfl⟩)
      | str s => exact .inr (.inr ⟨s, rfl⟩)
      | agg _ => simp [D.flatL] at h
      | sl _ => simp [D.flatL] at h
    | succ j =>
      refine ih ?_ hj
      cases c <;> simp [D.flatL] at h <;> exact h

theorem flat_ok {w' : World} {M M' : Nat → Prop} {β' : Nat → HE} {C C' : Nat → Prop} {ρ : Nat → Nat} {x : AV} {v : Value} (hx : RAV w M β C x v) (hf : x.flat = true) : RAV w' M' β' C' (x.ren ρ) v := by
  induction hx with
  | d d v hd =>
    simp only [AV.ren]
    cases hd with
    | int k n => exact .d _ _ (.int k n)
    | bool b => exact .d _ _ (.bool b)
    | str s => exact .d _ _ (.str s)
    | agg cs vs hl ho hr =>
      refine .d _ _ (.agg cs vs hl ho fun j d hj => ?_)
      have h1 := hr j d hj
      rcases dflatL_get (by simpa [AV.flat] using hf) hj with ⟨k, n, rfl⟩ | ⟨b, rfl⟩ | ⟨s, rfl⟩
      · rw [h1.int_inv]; exact .int k n
      · rw [h1.bool_inv]; exact .bool b
      · rw [h1.str_inv]; exact .str s
    | nil a c => simp [AV.flat] at hf
    | sl es a c sz f => simp [AV.flat] at hf
  | raw v => exact .raw v
  | ptr o off v ho hone h => simp [AV.flat] at hf
  | rptr o sz i off v ho hone h => simp [AV.flat] at hf
  | eptr e off p f => simp [AV.flat] at hf
  | own o sz v ho hone h => simp [AV.flat] at hf
  | sub o sz lo n v ho hone h => simp [AV.flat] at hf
  | agg cs vs hl hr ih =>
    simp only [AV.flat] at hf
    refine .agg _ vs (by rw [renL_len]; exact hl) fun j x hj => ?_
    rw [renL_get] at hj
    cases hx : cs[j]? with
    | none => rw [hx] at hj; cases hj
    | some y => rw [hx] at hj; cases hj; exact ih j y hx (flatL_get hf hx)
  | tup cs vs hl hr ih =>
    simp only [AV.flat] at hf
    refine .tup _ vs (by rw [renL_len]; exact hl) fun j x hj => ?_
    rw [renL_get] at hj
    cases hx : cs[j]? with
    | none => rw [hx] at hj; cases hj
    | some y => rw [hx] at hj; cases hj; exact ih j y hx (flatL_get hf hx)
  | fn f cs vs => simp [AV.flat] at hf
  | meth f cs vs => simp [AV.flat] at hf
  | dead v => simp [AV.flat] at hf

theorem Oof_some {l : List Ob} {i : Nat} {x : Ob} (h : l[i]? = some x) : Oof l i = x := by simp [Oof, h]
theorem Oof_none {l : List Ob} {i : Nat} (h : l.length ≤ i) : Oof l i = .none := by simp [Oof, List.getElem?_eq_none h]
theorem Oof_lt {l : List Ob} {i : Nat} (h : Oof l i ≠ .none) : i < l.length := by
  rcases Nat.lt_or_ge i l.length with h1 | h1
  · exact h1
  · exact absurd (Oof_none h1) h

theorem actCallK_ok {dst : Nat} {f : FuncId} {args : List AV} {kn : Bool} {who : List Nat} {rv : AV} {outs : List Ob} {e : Eff} {vs : Array Value} (hO : Objs O β X w) (hl : Looks O look) (hargs : CR O β X w args vs)
    (ha : actCallK (FnOK P) dst f args kn who rv outs look = some e) (hob : ∀ p ∈ e.obs, p) : CallOK P f ∧ Calls P f vs w fun en w' => ∃ v β', en = .returned v ∧ Done O β X w e v β' w' := by
  unfold actCallK at ha
  · split at ha
    · next l lent hview =>
      split at ha
      · next hc =>
        obtain ⟨hnd, hlent, hle, -, hnm, hwn, hnew, hlive, hrvn, houts⟩ := hc
        cases ha
        have hF' : FnOK P f (AV.renL (idxIn who) l) (who.map fun n => (look n).ren (idxIn who)) rv outs := hob _ (by simp)
        have hF := hF'.2
        obtain ⟨hvl, hvat⟩ := viewL_get hview
        have hOl : ∀ n ∈ who, look n = O n := fun n hn => by
          have := List.all_eq_true.1 hlive n hn
          rcases hl n with h1 | h1
          · exact h1
          · rw [h1] at this; simp at this
        have hOne : ∀ n ∈ who, O n ≠ .none := fun n hn h1 => by
          have := List.all_eq_true.1 hlive n hn
          rw [hOl n hn, h1] at this; simp at this
        have hidx : ∀ n ∈ who, idxIn who n < who.length ∧ who[idxIn who n]? = some n := fun n hn => by
          have h1 : who.idxOf n < who.length := List.idxOf_lt_length_of_mem hn
          exact ⟨h1, by simp [idxIn, h1]⟩
        have hidx2 : ∀ i n, who[i]? = some n → idxIn who n = i := fun i n hi => by
          obtain ⟨h1, h2⟩ := List.getElem?_eq_some_iff.1 hi
          rw [← h2]
          exact List.Nodup.idxOf_getElem hnd i h1
        rcases hlent with hlf | ⟨hflat, rfl, rfl⟩
        · -- nothing is lent
          subst hlf
          let βc : Nat → HE := fun i => match who[i]? with | some n => β n | none => .gone
          let Xc : Nat → Prop := fun b => X b ∨ ∃ o, o ∉ who ∧ (β o).blk = some b
          have hβc : ∀ i n, who[i]? = some n → βc i = β n := fun i n hi => by show (match who[i]? with | some n => β n | none => HE.gone) = _; rw [hi]
          have hβc0 : ∀ i, who[i]? = none → βc i = .gone := fun i hi => by show (match who[i]? with | some n => β n | none => HE.gone) = _; rw [hi]
          have hblk : ∀ i b, (βc i).blk = some b → ∃ n, who[i]? = some n ∧ (β n).blk = some b := fun i b hb => by
            cases hi : who[i]? with
            | none => rw [hβc0 i hi] at hb; cases hb
            | some n => rw [hβc i n hi] at hb; exact ⟨n, rfl, hb⟩
          have hMsub : ∀ b, Mset Xc βc b → Mset X β b := by
            rintro b ((hx | ⟨o, -, ho⟩) | ⟨i, hi⟩)
            · exact .inl hx
            · exact .inr ⟨o, ho⟩
            · obtain ⟨n, -, hn⟩ := hblk i b hi; exact .inr ⟨n, hn⟩
          have hOc : ∀ i n, who[i]? = some n → Oof (who.map fun n => (look n).ren (idxIn who)) i = (O n).ren (idxIn who) := fun i n hi => by
            rw [Oof_some (x := (look n).ren (idxIn who)) (by rw [List.getElem?_map, hi]; rfl), hOl n (List.mem_of_getElem? hi)]
          have hCc : ∀ n ∈ who, Oof (who.map fun n => (look n).ren (idxIn who)) (idxIn who n) ≠ .none ∧ (βc (idxIn who n) = β n ∨ βc (idxIn who n) = .gone) := fun n hn => by
            rw [hOc _ n (hidx n hn).2]
            exact ⟨fun h1 => hOne n hn (Ob.ren_none.1 h1), .inl (hβc _ n (hidx n hn).2)⟩
          have hObjs : Objs (Oof (who.map fun n => (look n).ren (idxIn who))) βc Xc w := by
            refine ⟨fun i => ?_, fun i j b h1 h2 => ?_, fun i b h1 h2 => ?_, fun b hb => ?_⟩
            · cases hi : who[i]? with
              | none =>
                rw [hβc0 i hi, Oof_none (by simpa using List.getElem?_eq_none_iff.1 hi)]
                exact .none
              | some n =>
                rw [hβc i n hi, hOc i n hi]
                refine (hO.rel n).ren hMsub fun k hk _ => hCc k ?_
                have hnw := List.mem_of_getElem? hi
                have := List.all_eq_true.1 hwn n hnw
                rw [hOl n hnw] at this
                have := List.all_eq_true.1 this k hk
                simpa using this
            · obtain ⟨n, hn, hb1⟩ := hblk i b h1
              obtain ⟨m, hm, hb2⟩ := hblk j b h2
              have := hO.inj n m b hb1 hb2
              subst this
              rw [← hidx2 i n hn, ← hidx2 j n hm]
            · obtain ⟨n, hn, hb1⟩ := hblk i b h1
              rcases h2 with hx | ⟨o, hno, hob'⟩
              · exact hO.priv n b hb1 hx
              · exact hno (hO.inj o n b hob' hb1 ▸ List.mem_of_getElem? hn)
            · rcases hb with hx | ⟨o, -, ho⟩
              · exact hO.xlt b hx
              · exact hO.tlt ⟨o, ho⟩
          have hCR : CR (Oof (who.map fun n => (look n).ren (idxIn who))) βc Xc w (AV.renL (idxIn who) l) vs := by
            refine ⟨by rw [renL_len, hvl]; exact hargs.size, fun j x hj => ?_⟩
            rw [renL_get] at hj
            cases hlj : l[j]? with
            | none => rw [hlj] at hj; cases hj
            | some y =>
              rw [hlj] at hj
              cases hj
              have hjl : j < args.length := by rw [← hvl]; exact (List.getElem?_eq_some_iff.1 hlj).1
              obtain ⟨y', b', h3, h4, h5⟩ := hvat j _ (List.getElem?_eq_getElem hjl)
              rw [hlj] at h3
              cases h3
              have h6 := view_ok (M' := Mset X β) hO hl (fun _ h => h) (hargs.at_ j _ (List.getElem?_eq_getElem hjl)) h4 (fun hb => by rw [h5 rfl] at hb; cases hb)
              refine h6.ren hMsub fun k hk _ => hCc k ?_
              have := List.all_eq_true.1 hnm k (namesL_mem hlj hk)
              simpa using this
          refine ⟨hF'.1, (hF w Xc βc vs hObjs hCR).mono fun en w' => ?_⟩
          rintro ⟨v, βr, rfl, hrv, hObjs', hstep⟩
          -- the names of what comes back
          let nm : Nat → Nat := outName who dst
          have hnmlt : ∀ i n, who[i]? = some n → nm i = n := fun i n hi => by
            have h1 := (List.getElem?_eq_some_iff.1 hi).1
            show (if i < who.length then who.getD i 0 else _) = n
            rw [if_pos h1, List.getD_eq_getElem?_getD, hi]; rfl
          have hnmge : ∀ i, who.length ≤ i → nm i = newName dst (i - who.length) := fun i hi => by
            show (if i < who.length then who.getD i 0 else _) = _
            rw [if_neg (by omega)]
          have hnewO : ∀ i, who.length ≤ i → i < outs.length → O (nm i) = .none := fun i h1 h2 => by
            rw [hnmge i h1]
            have := List.all_eq_true.1 hnew (i - who.length) (List.mem_range.2 (by omega))
            split at this
            · next hlk => exact hl.none hlk
            · cases this
          have hinj : ∀ i j, i < outs.length → j < outs.length → nm i = nm j → i = j := by
            intro i j hi hj hij
            rcases Nat.lt_or_ge i who.length with h1 | h1
            · have e1 := hnmlt i _ (List.getElem?_eq_getElem h1)
              rcases Nat.lt_or_ge j who.length with h2 | h2
              · have e2 := hnmlt j _ (List.getElem?_eq_getElem h2)
                rw [← hidx2 i _ (List.getElem?_eq_getElem h1), ← hidx2 j _ (List.getElem?_eq_getElem h2), ← e1, ← e2, hij]
              · exact absurd (hij ▸ hnewO j h2 hj) (e1 ▸ hOne _ (List.getElem_mem h1))
            · rcases Nat.lt_or_ge j who.length with h2 | h2
              · have e2 := hnmlt j _ (List.getElem?_eq_getElem h2)
                exact absurd (hij ▸ hnewO i h1 hi) (e2 ▸ hOne _ (List.getElem_mem h2))
              · rw [hnmge i h1, hnmge j h2] at hij
                have := newName_inj hij
                omega
          let inv : Nat → Option Nat := fun n => (List.range outs.length).find? (fun i => nm i == n)
          have hinv1 : ∀ n i, inv n = some i → i < outs.length ∧ nm i = n := fun n i hi => by
            have h1 := List.find?_some hi
            have h2 := List.mem_of_find?_eq_some hi
            exact ⟨List.mem_range.1 h2, by simpa using h1⟩
          have hinv2 : ∀ i, i < outs.length → inv (nm i) = some i := fun i hi => by
            cases hq : inv (nm i) with
            | none =>
              have := List.find?_eq_none.1 hq i (List.mem_range.2 hi)
              simp at this
            | some j =>
              obtain ⟨h1, h2⟩ := hinv1 _ _ hq
              rw [hinj j i h1 hi h2]
          have hinv3 : ∀ n ∈ who, inv n = some (idxIn who n) := fun n hn => by
            have h1 := hidx n hn
            have := hinv2 (idxIn who n) (by omega)
            rwa [hnmlt _ n h1.2] at this
          let β2 : Nat → HE := fun n => match inv n with | some i => βr i | none => β n
          have hβ2 : ∀ n i, inv n = some i → β2 n = βr i := fun n i hi => by show (match inv n with | some i => βr i | none => β n) = _; rw [hi]
          have hβ20 : ∀ n, inv n = none → β2 n = β n := fun n hi => by show (match inv n with | some i => βr i | none => β n) = _; rw [hi]
          have hzlen : (outs.map (Ob.ren nm)).length = outs.length := by simp
          have hO2 : ∀ n i, inv n = some i → updL O (zipFrom nm 0 (outs.map (Ob.ren nm))) n = (Oof outs i).ren nm := fun n i hi => by
            obtain ⟨h1, h2⟩ := hinv1 _ _ hi
            have := zip_at (f := nm) (outs.map (Ob.ren nm)) 0 O i (fun a b ha hb => by rw [hzlen] at ha hb; simpa using hinj a b ha hb) ((outs[i]).ren nm) (by simp [h1])
            rw [Nat.zero_add, h2] at this
            rw [this, Oof_some (List.getElem?_eq_getElem h1)]
          have hO20 : ∀ n, inv n = none → updL O (zipFrom nm 0 (outs.map (Ob.ren nm))) n = O n := fun n hi => zip_other _ _ _ fun i hi2 he => by
            rw [hzlen] at hi2
            rw [Nat.zero_add] at he
            rw [← he, hinv2 i hi2] at hi
            cases hi
          have hnw : ∀ n, inv n = none → n ∉ who := fun n hi hn => by rw [hinv3 n hn] at hi; cases hi
          have hMr : ∀ b, Mset X β2 b → Mset Xc βr b := by
            rintro b (hx | ⟨n, hn⟩)
            · exact .inl (.inl hx)
            · cases hi : inv n with
              | some i => rw [hβ2 n i hi] at hn; exact .inr ⟨i, hn⟩
              | none => rw [hβ20 n hi] at hn; exact .inl (.inr ⟨n, hnw n hi, hn⟩)
          have hren : ∀ k, k < outs.length → Oof outs k ≠ .none → updL O (zipFrom nm 0 (outs.map (Ob.ren nm))) (nm k) ≠ .none ∧ (β2 (nm k) = βr k ∨ β2 (nm k) = .gone) := fun k hk hne => by
            rw [hO2 _ k (hinv2 k hk)]
            exact ⟨fun h1 => hne (Ob.ren_none.1 h1), .inl (hβ2 _ k (hinv2 k hk))⟩
          have hTc : ∀ b, Tset βc b → Tset β b := fun b ⟨i, hi⟩ => by obtain ⟨n, -, hn⟩ := hblk i b hi; exact ⟨n, hn⟩
          have hkeep : ∀ n, O n ≠ .none → updL O (zipFrom nm 0 (outs.map (Ob.ren nm))) n ≠ .none ∧ (β2 n = β n ∨ β2 n = .gone) := fun n hn => by
            cases hi : inv n with
            | none => rw [hO20 n hi, hβ20 n hi]; exact ⟨hn, .inl rfl⟩
            | some i =>
              obtain ⟨h1, h2⟩ := hinv1 _ _ hi
              rcases Nat.lt_or_ge i who.length with h3 | h3
              · have hwi : who[i]? = some n := by
                  have := hnmlt i _ (List.getElem?_eq_getElem h3)
                  rw [List.getElem?_eq_getElem h3, ← this, h2]
                have hne : Oof (who.map fun n => (look n).ren (idxIn who)) i ≠ .none := by rw [hOc i n hwi]; exact fun h => hn (Ob.ren_none.1 h)
                obtain ⟨k1, k2⟩ := hstep.keep i hne
                rw [hO2 n i hi, hβ2 n i hi, ← hβc i n hwi]
                exact ⟨fun h => k1 (Ob.ren_none.1 h), k2⟩
              · exact absurd (h2 ▸ hnewO i h3 h1) hn
          have hnewT : ∀ b, Tset β2 b → Tset β b ∨ w.heap.size ≤ b := fun b ⟨n, hn⟩ => by
            cases hi : inv n with
            | none => rw [hβ20 n hi] at hn; exact .inl ⟨n, hn⟩
            | some i =>
              rw [hβ2 n i hi] at hn
              rcases hstep.new b ⟨i, hn⟩ with h1 | h1
              · exact .inl (hTc b h1)
              · exact .inr h1
          refine ⟨v, β2, rfl, ?_, ⟨fun n => ?_, fun n m b h1 h2 => ?_, fun n b h1 hx => ?_, fun b hb => Nat.lt_of_lt_of_le (hO.xlt b hb) hstep.evo.size⟩, hstep.evo.weaken hTc, hkeep, hnewT⟩
          · refine hrv.ren hMr fun k hk hCk => hren k ?_ hCk
            have := List.all_eq_true.1 hrvn k hk
            simpa using this
          · cases hi : inv n with
            | some i =>
              show ObjRel w' _ _ _ (updL O (zipFrom nm 0 (outs.map (Ob.ren nm))) n) _
              rw [hO2 n i hi, hβ2 n i hi]
              refine (hObjs'.rel i).ren hMr fun k hk hCk => hren k ?_ hCk
              have h1 := (hinv1 n i hi).1
              rw [Oof_some (List.getElem?_eq_getElem h1)] at hk
              have := List.all_eq_true.1 houts _ (List.getElem_mem h1)
              have := List.all_eq_true.1 this k hk
              simpa using this
            | none =>
              show ObjRel w' _ _ _ (updL O (zipFrom nm 0 (outs.map (Ob.ren nm))) n) _
              rw [hO20 n hi, hβ20 n hi]
              refine (hO.rel n).mono hstep.evo (fun b hb => .inr (hTc b hb)) (fun b hb => ?_) hkeep fun b hb => hstep.evo.block b ((hO.rel n).lt hb) fun ⟨i, hi2⟩ => ?_
              · rcases hb with hx | ht
                · exact .inl (.inl hx)
                · rcases hnewT b ht with h1 | h1
                  · exact .inl (.inr h1)
                  · exact .inr h1
              · obtain ⟨m, hm, hb2⟩ := hblk i b hi2
                exact hnw n hi (hO.inj n m b hb hb2 ▸ List.mem_of_getElem? hm)
          · cases hi : inv n with
            | some i =>
              rw [hβ2 n i hi] at h1
              cases hj : inv m with
              | some j =>
                rw [hβ2 m j hj] at h2
                rw [← (hinv1 n i hi).2, ← (hinv1 m j hj).2, hObjs'.inj i j b h1 h2]
              | none =>
                rw [hβ20 m hj] at h2
                exact absurd (.inr ⟨m, hnw m hj, h2⟩) (hObjs'.priv i b h1)
            | none =>
              rw [hβ20 n hi] at h1
              cases hj : inv m with
              | some j =>
                rw [hβ2 m j hj] at h2
                exact absurd (.inr ⟨n, hnw n hi, h1⟩) (hObjs'.priv j b h2)
              | none => rw [hβ20 m hj] at h2; exact hO.inj n m b h1 h2
          · cases hi : inv n with
            | some i => rw [hβ2 n i hi] at h1; exact hObjs'.priv i b h1 (.inl hx)
            | none => rw [hβ20 n hi] at h1; exact hO.priv n b h1 hx
        · -- rows are lent, nothing of memory comes back
          have hM0 : ∀ b, Mset X (fun _ => HE.gone) b → X b := by
            rintro b (hx | ⟨o, ho⟩)
            · exact hx
            · cases ho
          have hObjs : Objs (Oof (([] : List Nat).map fun n => (look n).ren (idxIn []))) (fun _ => HE.gone) X w :=
            ⟨fun i => by rw [Oof_none (by simp)]; exact .none, fun i j b h1 => (by cases h1), fun i b h1 => (by cases h1), hO.xlt⟩
          have hCR : CR (Oof (([] : List Nat).map fun n => (look n).ren (idxIn []))) (fun _ => HE.gone) X w (AV.renL (idxIn []) l) vs := by
            refine ⟨by rw [renL_len, hvl]; exact hargs.size, fun j x hj => ?_⟩
            rw [renL_get] at hj
            cases hlj : l[j]? with
            | none => rw [hlj] at hj; cases hj
            | some y =>
              rw [hlj] at hj
              cases hj
              have hjl : j < args.length := by rw [← hvl]; exact (List.getElem?_eq_some_iff.1 hlj).1
              obtain ⟨y', b', h3, h4, h5⟩ := hvat j _ (List.getElem?_eq_getElem hjl)
              rw [hlj] at h3
              cases h3
              have h6 := view_ok (M' := Mset X fun _ => HE.gone) hO hl (fun b hb => .inl (hM0 b hb)) (hargs.at_ j _ (List.getElem?_eq_getElem hjl)) h4
                (fun _ b ⟨o, ho⟩ hm => hO.priv o b ho (hM0 b hm))
              refine h6.ren (fun _ h => h) fun k hk _ => ?_
              have := List.all_eq_true.1 hnm k (namesL_mem hlj hk)
              simp at this
          refine ⟨hF'.1, (hF w X (fun _ => HE.gone) vs hObjs hCR).mono fun en w' => ?_⟩
          rintro ⟨v, βr, rfl, hrv, hObjs', hstep⟩
          have hT0 : ∀ b, ¬ Tset (fun _ => HE.gone) b := fun b ⟨o, ho⟩ => by cases ho
          have hevo : Evo (Tset β) w w' := hstep.evo.weaken fun b hb => (hT0 b hb).elim
          have hst : Step O (updL O (zipFrom (outName [] dst) 0 (([] : List Ob).map (Ob.ren (outName [] dst))))) β β w w' := ⟨hevo, fun o ho => ⟨ho, .inl rfl⟩, fun b hb => .inl hb⟩
          refine ⟨v, β, rfl, flat_ok hrv hflat, ⟨fun n => ?_, hO.inj, hO.priv, fun b hb => Nat.lt_of_lt_of_le (hO.xlt b hb) hevo.size⟩, hst⟩
          exact (hO.rel n).mono hevo (fun _ hb => .inr hb) (hst.mset X) hst.keep fun b hb => hstep.evo.block b ((hO.rel n).lt hb) (hT0 b)
      · cases ha
    · cases ha
theorem actCallH_ok {dst : Nat} {f : FuncId} {args : List AV} {h : OH} {e : Eff} {vs : Array Value} (hO : Objs O β X w) (hl : Looks O look) (hargs : CR O β X w args vs)
    (ha : actCallH (FnOK P) dst f args h look = some e) (hob : ∀ p ∈ e.obs, p) : CallOK P f ∧ Calls P f vs w fun en w' => ∃ v β', en = .returned v ∧ Done O β X w e v β' w' := by
  unfold actCallH at ha
  split at ha
  · exact actCallK_ok hO hl hargs ha hob
  · exact actCallK_ok hO hl hargs ha hob
  · cases ha
theorem actCall_ok {dst : Nat} {f : FuncId} {args : List AV} {h : OH} {e : Eff} {vs : Array Value} (hO : Objs O β X w) (hl : Looks O look) (hargs : CR O β X w args vs)
    (ha : actCall (FnOK P) dst f args h look = some e) (hob : ∀ p ∈ e.obs, p) : CallOK P f ∧ Calls P f vs w fun en w' => ∃ v β', en = .returned v ∧ Done O β X w e v β' w' := by
  unfold actCall at ha
  split at ha
  · split at ha
    · split at ha
      · split at ha
        · exact actCallH_ok hO hl hargs ha hob
        · cases ha
      · cases ha
    · cases ha
  · exact actCallH_ok hO hl hargs ha hob
end
end Sx
end Go.Proofs.Ytfllhedkgeljaaa
